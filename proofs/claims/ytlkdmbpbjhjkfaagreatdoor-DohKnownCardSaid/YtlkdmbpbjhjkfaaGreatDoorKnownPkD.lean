/- DohKnown: the law holds of every input: it returns true, and each argument reads as it did. -/
import Derived.Test.YtlkdmbpbjhjkfaaGreatDoorKnownPkC
namespace Go.Proofs.YtlkdmbpbjhjkfaaGreatDoor
set_option linter.unusedVariables false
set_option linter.unusedSimpArgs false
set_option maxRecDepth 100000
theorem answer_kn {w0 : World} {base : Nat} {H : List Seg} {A : Option Addr} {C : Nat} {b L : List UInt8} {age e : Int} {kp : Bool} (hk : ansF b age kp = (L, e)) (h : Rd tyB w0 base H A C b) (hbl : b.length ≤ 4294967280) (T10 : Tab10 w0 base) :
    SCalls Tryz.prog 14 [.slice A b.length C, int age, .bool kp] w0 base H (fun v H' => ∃ x : Sl tyB 5, x.l = L ∧ v = .tuple #[.slice x.A x.l.length x.C, int e] ∧ H' = x.s :: H) := by
  refine (answer_ok16 h hbl age kp T10).mono ?_
  rintro v H' ⟨x, hx, rfl, rfl⟩
  rw [hk] at hx ⊢
  exact ⟨x, hx, rfl, rfl⟩
theorem read_kn {w0 : World} {base : Nat} {H : List Seg} {A : Option Addr} {C : Nat} {b bd : List UInt8} {fs : List Fld} {st n e : Int} {kp : Bool} (hk : readF b 0 = (⟨st, fs, bd, kp⟩, n, e)) (h : Rd tyB w0 base H A C b) (hbl : b.length ≤ 4294967280) (T : Tabs w0 base) (ET : ErrTab w0 base) (T10 : Tab10 w0 base) :
    SCalls Tryz.prog 39 [.slice A b.length C, int 0] w0 base H (fun v H' => ∃ (x : Sl tyField 78) (y : Sl tyB 5), x.l = fs ∧ y.l = bd ∧ v = .tuple #[.agg #[int st, .slice x.A x.l.length x.C, .slice y.A y.l.length y.C, .bool kp], int n, int e] ∧ H' = x.s :: y.s :: H) := by
  refine (read15_ok 0 h hbl T ET T10).mono ?_
  rintro v H' ⟨R, hR, x, y, hx, hy, rfl, rfl⟩
  rw [hk] at hR
  dsimp only at hR
  subst hR
  exact ⟨x, y, hx, hy, by rw [hk], rfl⟩
set_option maxHeartbeats 400000 in
theorem post16_ok {w0 : World} {base : Nat} {H : List Seg}  :
    SCalls Tryz.prog 38 [] w0 base (H) (fun v H' => ∃ x : Sl tyField 78, x.l = PF16 ∧ v = .agg #[str POSTM, str DNSQ, int 1, .slice x.A x.l.length x.C] ∧ H' = x.s :: H) := by
  refine SCalls.of_walk (n := 10) Tryz.func38 rfl rfl rfl fun cs => ?_
  refine At.seq ?_
  refine At.region ?_
  refine AtL.alloc tf_zero47 (cs := #[str [], str [], .int .i64 0, .slice none 0 0]) rfl (.inl rfl) rfl ?_
  intro b1
  refine AtL.done ?_
  refine At.seq ?_
  refine At.region ?_
  refine AtL.call tf_body37 (.inl rfl) rfl rfl (get16_ok (m := [80, 79, 83, 84]) (t := [47, 100, 110, 115, 45, 113, 117, 101, 114, 121])) ?_
  rintro _ _ ⟨⟨A2, C3, l4, s5, o6⟩, hx7, rfl, rfl⟩
  obtain rfl : [(([72, 111, 115, 116] : List UInt8), ([120] : List UInt8))] = l4 := hx7.symm
  refine AtL.alloc tf_zero47 (cs := #[str [], str [], .int .i64 0, .slice none 0 0]) rfl (.inl rfl) rfl ?_
  intro b8
  refine AtL.store (H' := [(b8, .cells #[str [80, 79, 83, 84], str [47, 100, 110, 115, 45, 113, 117, 101, 114, 121], .int .i64 1, .slice A2 ([(([72, 111, 115, 116] : List UInt8), ([120] : List UInt8))]).length C3] 47 (0, 0))] :: s5 :: [(b1, .cells #[str [], str [], .int .i64 0, .slice none 0 0] 47 (0, 0))] :: H) 0 0 tf_sz47 (.inl rfl) rfl rfl rfl rfl rfl rfl rfl rfl rfl ?_
  refine AtL.done ?_
  refine At.seq ?_
  refine At.region ?_
  refine AtL.fieldAddrB tf_fo47_3 (.inl rfl) rfl rfl rfl ?_
  refine AtL.load tf_flat45 (.inl rfl) rfl rfl (Cell.own 0 0 rfl rfl rfl) ?_
  refine AtL.build (cs := [str [99, 111, 110, 116, 101, 110, 116, 45, 116, 121, 112, 101], str [97, 112, 112, 108, 105, 99, 97, 116, 105, 111, 110, 47, 100, 110, 115, 45, 109, 101, 115, 115, 97, 103, 101]]) tf_lay78 (.inl rfl) rfl rfl rfl ?_
  refine AtL.buildSlice (cs := [str [99, 111, 110, 116, 101, 110, 116, 45, 116, 121, 112, 101], str [97, 112, 112, 108, 105, 99, 97, 116, 105, 111, 110, 47, 100, 110, 115, 45, 109, 101, 115, 115, 97, 103, 101]]) Tryz.underlying45 tf_zero78 tf_sz78 rfl rfl (.inl rfl) rfl rfl rfl ?_
  intro b9
  refine AtL.own1 tyField (l := ([(([99, 111, 110, 116, 101, 110, 116, 45, 116, 121, 112, 101] : List UInt8), ([97, 112, 112, 108, 105, 99, 97, 116, 105, 111, 110, 47, 100, 110, 115, 45, 109, 101, 115, 115, 97, 103, 101] : List UInt8))] : List (List UInt8 × List UInt8))) rfl rfl (by first | decide | simp) ?_
  intro s10 o11
  refine AtL.append (l := [(([72, 111, 115, 116] : List UInt8), ([120] : List UInt8))]) (news := [(([99, 111, 110, 116, 101, 110, 116, 45, 116, 121, 112, 101] : List UInt8), ([97, 112, 112, 108, 105, 99, 97, 116, 105, 111, 110, 47, 100, 110, 115, 45, 109, 101, 115, 115, 97, 103, 101] : List UInt8))]) 2 tf_el45 rfl o6 (o11.rd (i := 0) rfl) (by first | omega | (simp only [List.length_append, List.length_cons, List.length_nil]; omega) | (simp; done) | (simp; omega)) (.inl rfl) rfl rfl rfl ?_
  intro A12 C13 s14 o15
  refine AtL.fieldAddrB tf_fo47_3 (.inl rfl) rfl rfl rfl ?_
  refine AtL.store (H' := s10 :: [(b8, .cells #[str [80, 79, 83, 84], str [47, 100, 110, 115, 45, 113, 117, 101, 114, 121], .int .i64 1, .slice A12 (([(([72, 111, 115, 116] : List UInt8), ([120] : List UInt8))]) ++ ([(([99, 111, 110, 116, 101, 110, 116, 45, 116, 121, 112, 101] : List UInt8), ([97, 112, 112, 108, 105, 99, 97, 116, 105, 111, 110, 47, 100, 110, 115, 45, 109, 101, 115, 115, 97, 103, 101] : List UInt8))])).length C13] 47 (0, 0))] :: s14 :: [(b1, .cells #[str [], str [], .int .i64 0, .slice none 0 0] 47 (0, 0))] :: H) 1 0 tf_sz45 (.inl rfl) rfl rfl rfl rfl rfl rfl rfl rfl rfl ?_
  refine AtL.done ?_
  refine At.seq ?_
  refine At.region ?_
  refine AtL.loadN (cs := [str [80, 79, 83, 84], str [47, 100, 110, 115, 45, 113, 117, 101, 114, 121], .int .i64 1, .slice A12 (([(([72, 111, 115, 116] : List UInt8), ([120] : List UInt8))]) ++ ([(([99, 111, 110, 116, 101, 110, 116, 45, 116, 121, 112, 101] : List UInt8), ([97, 112, 112, 108, 105, 99, 97, 116, 105, 111, 110, 47, 100, 110, 115, 45, 109, 101, 115, 115, 97, 103, 101] : List UInt8))])).length C13]) tf_agg47 (.inl rfl) rfl rfl rfl (cellsOwn 1 0 0 rfl rfl rfl) ?_
  refine AtL.store (H' := s10 :: [(b8, .cells #[str [80, 79, 83, 84], str [47, 100, 110, 115, 45, 113, 117, 101, 114, 121], .int .i64 1, .slice A12 (([(([72, 111, 115, 116] : List UInt8), ([120] : List UInt8))]) ++ ([(([99, 111, 110, 116, 101, 110, 116, 45, 116, 121, 112, 101] : List UInt8), ([97, 112, 112, 108, 105, 99, 97, 116, 105, 111, 110, 47, 100, 110, 115, 45, 109, 101, 115, 115, 97, 103, 101] : List UInt8))])).length C13] 47 (0, 0))] :: s14 :: [(b1, .cells #[str [80, 79, 83, 84], str [47, 100, 110, 115, 45, 113, 117, 101, 114, 121], .int .i64 1, .slice A12 (([(([72, 111, 115, 116] : List UInt8), ([120] : List UInt8))]) ++ ([(([99, 111, 110, 116, 101, 110, 116, 45, 116, 121, 112, 101] : List UInt8), ([97, 112, 112, 108, 105, 99, 97, 116, 105, 111, 110, 47, 100, 110, 115, 45, 109, 101, 115, 115, 97, 103, 101] : List UInt8))])).length C13] 47 (0, 0))] :: H) 3 0 tf_sz47 (.inl rfl) rfl rfl rfl rfl rfl rfl rfl rfl rfl ?_
  refine AtL.done ?_
  exact At.retMP (vs := [.agg #[str [80, 79, 83, 84], str [47, 100, 110, 115, 45, 113, 117, 101, 114, 121], .int .i64 1, .slice A12 (([(([72, 111, 115, 116] : List UInt8), ([120] : List UInt8))]) ++ ([(([99, 111, 110, 116, 101, 110, 116, 45, 116, 121, 112, 101] : List UInt8), ([97, 112, 112, 108, 105, 99, 97, 116, 105, 111, 110, 47, 100, 110, 115, 45, 109, 101, 115, 115, 97, 103, 101] : List UInt8))])).length C13]]) (H2 := s14 :: H) [2] 4 rfl rfl Tryz.func38 rfl ⟨⟨_, rfl, LoadsTo.agg (cs := [str [80, 79, 83, 84], str [47, 100, 110, 115, 45, 113, 117, 101, 114, 121], .int .i64 1, .slice A12 (([(([72, 111, 115, 116] : List UInt8), ([120] : List UInt8))]) ++ ([(([99, 111, 110, 116, 101, 110, 116, 45, 116, 121, 112, 101] : List UInt8), ([97, 112, 112, 108, 105, 99, 97, 116, 105, 111, 110, 47, 100, 110, 115, 45, 109, 101, 115, 115, 97, 103, 101] : List UInt8))])).length C13]) tf_agg47 rfl (cellsOwn 3 0 0 rfl rfl rfl)⟩, trivial⟩ (⟨⟨A12, C13, ([(([72, 111, 115, 116] : List UInt8), ([120] : List UInt8))]) ++ ([(([99, 111, 110, 116, 101, 110, 116, 45, 116, 121, 112, 101] : List UInt8), ([97, 112, 112, 108, 105, 99, 97, 116, 105, 111, 110, 47, 100, 110, 115, 45, 109, 101, 115, 115, 97, 103, 101] : List UInt8))]), s14, o15⟩, rfl, rfl, rfl⟩)
theorem get16k {w0 : World} {base : Nat} {H : List Seg} {m t m' : List UInt8} (hm : m' = m) : SCalls Tryz.prog 37 [str m', str t] w0 base H (fun v H' => ∃ x : Sl tyField 78, x.l = HO16 ∧ v = .agg #[str m, str t, int 1, .slice x.A x.l.length x.C] ∧ H' = x.s :: H) := by
  subst hm; exact get16_ok
end Go.Proofs.YtlkdmbpbjhjkfaaGreatDoor
namespace Go.Proofs.YtlkdmbpbjhjkfaaGreatDoor
set_option linter.unusedVariables false
open Go Machine
def PCalls (P : Program) (f : FuncId) (args : List Value) (w0 : World) (base : Nat) (H : List Seg) (R : Value → List Seg → Prop) (Q : List PanicEntry → List Seg → Prop) : Prop :=
  ∀ w, Sep w0 base w H → Calls P f args.toArray w fun e w' => (∃ v H', e = .returned v ∧ R v H' ∧ Sep w0 base w' H') ∨ ∃ ch H', e = .panicked ch ∧ Q ch H' ∧ Sep w0 base w' H'
def LeftQ (P : Program) (f : FuncId) (cs : List Frame) (w0 : World) (base : Nat) (R : Value → List Seg → Prop) (Q : List PanicEntry → List Seg → Prop) (m : Machine) : Prop :=
  Left P f cs w0 base R m ∨ ∃ ch H' fr w', m = lone fr cs w' ∧ fr.fn = f ∧ fr.leaving P w' (.panicked ch) ∧ Q ch H' ∧ Sep w0 base w' H'
theorem PCalls.of_walk {P : Program} {f : FuncId} {fn : Func} {c : Code} {n : Nat} {args : List Value} {w0 : World} {base : Nat} {H : List Seg} {R : Value → List Seg → Prop} {Q : List PanicEntry → List Seg → Prop}
    (hf : P.funcs[f]? = some fn) (hb : fn.body = some c) (hn : fn.ntmps = n) (hle : Nat.ble args.length n = true)
    (h : ∀ cs, At ⟨P, ⟨f, .normal, none⟩, n, cs, LeftQ P f cs w0 base R Q, w0, base⟩ [.code c] (argsEnv args 0) [] H) : PCalls P f args w0 base H R Q := by
  intro w S cs
  have hle := Nat.le_of_ble_eq_true hle
  have hA : Agree n (args.toArray ++ Array.replicate (n - args.length) undef) (argsEnv args 0) := by
    refine ⟨by simp; omega, fun t v hv => ?_⟩
    obtain ⟨_, h2⟩ := argsEnv_get hv
    rw [Nat.sub_zero] at h2
    have hlt := (List.getElem?_eq_some_iff.1 h2).1
    rw [Array.getD_eq_getD_getElem?, Array.getElem?_append_left (by simpa using hlt)]
    simp [h2]
  have henter : Frame.enter P f args.toArray .normal = Ctx.fr ⟨f, .normal, none⟩ (args.toArray ++ Array.replicate (n - args.length) undef) [] [.code c] := by
    simp [Frame.enter, Ctx.fr, hf, hb, hn]
  obtain ⟨m', hs, hL⟩ := h cs _ w hA S
  rcases hL with ⟨v, H', fr, w', rfl, h1, h2, h3, h4⟩ | ⟨ch, H', fr, w', rfl, h1, h2, h3, h4⟩
  · exact ⟨.returned v, w', fr, .inl ⟨v, H', rfl, h3, h4⟩, by rw [henter]; exact hs, h1, h2⟩
  · exact ⟨.panicked ch, w', fr, .inr ⟨ch, H', rfl, h3, h4⟩, by rw [henter]; exact hs, h1, h2⟩
theorem At.toQ {P : Program} {c : Ctx} {n : Nat} {f : FuncId} {cs : List Frame} {w0 : World} {base : Nat} {R : Value → List Seg → Prop} {Q : List PanicEntry → List Seg → Prop} {k : List Item} {E : Env} {ds : List Deferred} {H : List Seg}
    (h : At ⟨P, c, n, cs, Left P f cs w0 base R, w0, base⟩ k E ds H) : At ⟨P, c, n, cs, LeftQ P f cs w0 base R Q, w0, base⟩ k E ds H := fun a w ha S => by
  obtain ⟨m', h1, h2⟩ := h a w ha S
  exact ⟨m', h1, .inl h2⟩
theorem Un.panicQ {P : Program} {f : FuncId} {fn : Func} {n : Nat} {cs : List Frame} {w0 : World} {base : Nat} {R : Value → List Seg → Prop} {Q : List PanicEntry → List Seg → Prop} {E : Env} {H : List Seg} {ch : List PanicEntry}
    (hf : P.funcs[f]? = some fn) (hQ : Q ch H) : Un ⟨P, ⟨f, .normal, none⟩, n, cs, LeftQ P f cs w0 base R Q, w0, base⟩ (.panicking ch) E [] H := fun a w k ha S =>
  ⟨_, .refl P _, .inr ⟨ch, H, _, w, rfl, rfl, ⟨rfl, rfl, _, hf⟩, hQ, S⟩⟩
theorem AtL.callQ {X : Pt} {k : List Item} {E : Env} {ds : List Deferred} {H : List Seg} {ops : Array Oper} {os : List Oper} {dst : Option Tmp} {ty : TypeId} {pos : String} {after : Array Edge} {g : Option (Nat × Bool)} {R : Value → List Seg → Prop} {Q : List PanicEntry → List Seg → Prop}
    {f : FuncId} {xs : Array Operand} {ts : Array TypeId} {args : List Value} (hb : Body X.P f) (hg : Wd X ops E g) (hd : dstOk X.n dst = true) (hx : evs E xs.toList = some args) (hc : PCalls X.P f args X.w0 X.base H R Q)
    (hp : ∀ ch H', Q ch H' → Un X (.panicking ch) E ds H') (hk : ∀ v H', R v H' → AtL X ops os k (putE E dst v) ds H') :
    AtL X ops (⟨dst, .call ⟨.value (.func f), xs, ts⟩, ty, pos, after, g⟩ :: os) k E ds H := by
  intro is hi a w ha S
  cases is with
  | nil => simp at hi
  | cons i is =>
    simp only [List.map_cons, List.cons.injEq] at hi
    obtain ⟨ho, hi⟩ := hi
    have hρ : ∀ x v, ev E x = some v → evA a x = v := fun x v hx => ha.ev hx
    have hr : (execOp (evA a) ⟨dst, .call ⟨.value (.func f), xs, ts⟩, ty, pos, after, g⟩).run X.P w = .ok (.enter f args.toArray) w := by
      have hf : evA a (.func f) = .func (.func f) #[] #[] := hρ _ _ rfl
      simp [execOp, resolve, hf, Deferred.ofValue, evs_arr hρ hx, invoke, body_run hb]
    obtain ⟨e, w', fr, hR, hcomes, _, hleave⟩ := hc w S (X.c.fr a ds (.inRegion ops (i :: is) :: k) :: X.cs)
    have h1 := go_op_enter (cs := X.cs) (c := X.c) (k := k) (ds := ds) (is := is) ho (hg.wanted (o := ⟨dst, .call ⟨.value (.func f), xs, ts⟩, ty, pos, after, g⟩) ha) (.inl rfl) hr
    rcases hR with ⟨v, H', rfl, hR, S'⟩ | ⟨ch, H', rfl, hQ, S'⟩
    · have h2 := step_leave_returned (cs := X.cs) (c := X.c.fr a ds (.inRegion ops (i :: is) :: k)) hleave
      rw [fr_finish ho] at h2
      exact .steps (.head h1 (Steps.trans hcomes (.one h2))) (hk v H' hR is hi _ _ (ha.put hd v) S')
    · have h2 := step_leave_panicked (cs := X.cs) (c := X.c.fr a ds (.inRegion ops (i :: is) :: k)) hleave
      have h3 : (X.c.fr a ds (.inRegion ops (i :: is) :: k)).raise ch = { X.c.fr a ds (.inRegion ops (i :: is) :: k) with mode := .panicking ch } := rfl
      rw [h3] at h2
      exact .steps (.head h1 (Steps.trans hcomes (.one h2))) (hp ch H' hQ a w' _ ha S')
end Go.Proofs.YtlkdmbpbjhjkfaaGreatDoor
namespace Go.Proofs.YtlkdmbpbjhjkfaaGreatDoor
set_option linter.unusedVariables false
set_option linter.unusedSimpArgs false
set_option maxRecDepth 100000
theorem y_in {P : Program} {lp : Nat} {args : List Value} {w0 : World} {base : Nat} {s : Seg} {Hc T : List Seg} {B : Bool → List Seg → Prop}
    (h : ∀ T', YCalls P lp args w0 base (Hc ++ T') (fun v H' => ∃ (b : Bool) (Hc' : List Seg), v = .bool b ∧ H' = Hc' ++ T' ∧ B b Hc')) : YCalls P lp args w0 base (s :: (Hc ++ T)) (fun v H' => ∃ (b : Bool) (Hc' : List Seg), v = .bool b ∧ H' = s :: (Hc' ++ T) ∧ B b Hc') :=
  (YCalls.perm (perm1 s Hc T) (h (s :: T))).permR fun v H1 ⟨b, Hc', e, eH, hA⟩ => ⟨_, eH ▸ (perm1 s Hc' T).symm, b, Hc', e, rfl, hA⟩
set_option maxHeartbeats 400000 in
theorem all1_ok {w0 : World} {base : Nat} {T Hc : List Seg} {lp bn : Nat} {n : List UInt8} {J : Nat → List Seg → Prop} {K : List Seg → Prop} (hn : n.length ≤ 65535)
    (hY : ∀ u f Hc, u.length ≤ n.length → J (f + 1) Hc → ∀ T', YCalls Tryz.prog lp [str u, .bool true] w0 base (Hc ++ T') (fun v H' => ∃ (b : Bool) (Hc' : List Seg), v = .bool b ∧ H' = Hc' ++ T' ∧ ((b = true → J f Hc') ∧ (b = false → K Hc'))))
    (hF : ∀ f Hc, J f Hc → ∀ T', YCalls Tryz.prog lp [str [], .bool false] w0 base (Hc ++ T') (fun v H' => ∃ (b : Bool) (Hc' : List Seg), v = .bool b ∧ H' = Hc' ++ T' ∧ ((b = true → J f Hc') ∧ (b = false → K Hc'))))
    (h0 : J n.length Hc) :
    SCalls Tryz.prog 230 [.func (.yield lp) #[] #[], .pointer (some ⟨bn, 0, none⟩)] w0 base ([(bn, .cells #[str n] 9 (0, 0))] :: (Hc ++ T)) (fun v H' => ∃ (b : Bool) (f : Nat) (y : List UInt8) (Hc' : List Seg), (b = true → J f Hc') ∧ (b = false → K Hc') ∧ v = .tuple #[] ∧ H' = [(bn, .cells #[str y] 9 (0, 0))] :: (Hc' ++ T)) := by
  refine SCalls.of_walk (n := 43) Tryz.func230 rfl rfl rfl fun cs => ?_
  refine At.block ?_
  refine At.loop3 (fun (y : List UInt8) (f2 : Nat) (Hc2 : List Seg) => [(0, .func (.yield lp) #[] #[]), (1, .pointer (some ⟨bn, 0, none⟩))]) (fun (y : List UInt8) (f2 : Nat) (Hc2 : List Seg) => [(bn, .cells #[str y] 9 (0, 0))] :: (Hc2 ++ T)) (fun (y : List UInt8) (f2 : Nat) (Hc2 : List Seg) => y.length ≤ f2 ∧ J f2 Hc2 ∧ y.length ≤ n.length) (fun (y : List UInt8) (f2 : Nat) (Hc2 : List Seg) => y.length) n n.length Hc (⟨Nat.le_refl _, h0, Nat.le_refl _⟩) ⟨rfl, rfl, trivial⟩ rfl ?_
  rintro y f2 Hc2 ⟨hyf, hJ, hyn⟩ ihL1
  refine At.block ?_
  refine At.seq ?_
  refine At.seq ?_
  refine At.region ?_
  refine AtL.load tf_flat9 (.inl rfl) rfl rfl (Cell.own 0 0 rfl rfl rfl) ?_
  refine AtL.eqs (a := y) (b := [0]) (.inl rfl) rfl rfl rfl ?_
  refine AtL.done ?_
  refine At.cond rfl ?_ ?_
  · intro hc1
    have hc1 : y = [0] := of_decide_eq_true hc1
    exact At.ret Tryz.func230 rfl rfl (⟨true, f2, y, Hc2, fun _ => hJ, fun h => (by cases h), rfl, rfl⟩)
  · intro hc1
    have hc1 : ¬ (y = [0]) := of_decide_eq_false hc1
    refine At.skip ?_
    refine At.seq ?_
    refine At.seq ?_
    rcases Nat.eq_zero_or_pos y.length with hl0 | hl0
    · skip
      refine At.draw (es := []) (pv := [(0, str y), (1, .int .i64 (y.length : Int)), (2, .bool true), (3, .bool true), (4, undef), (5, undef), (6, undef), (7, .bool true), (8, .bool true), (9, undef), (10, undef), (11, undef), (12, .bool true), (13, .bool true), (14, undef), (15, undef), (16, undef), (17, undef), (18, undef), (19, undef), (20, .bool true)]) tf_mixed (by kernel_rfl) (by kernel_rfl) (by kernel_rfl) ?_
      refine ⟨⟨.inr ⟨_, rfl, rfl, .inl ⟨rfl, Do.load tf_flat9 rfl (Cell.own 0 0 rfl rfl rfl)⟩⟩, .inr ⟨_, rfl, rfl, .inl ⟨rfl, Do.lenS (l := y) Tryz.underlying9 rfl⟩⟩, .inr ⟨_, rfl, rfl, .inl ⟨rfl, Do.asBool (Do.eqi rfl rfl) (decide_eq_true (by omega))⟩⟩, .inr ⟨_, rfl, rfl, .inl ⟨rfl, Do.move rfl⟩⟩, .inr ⟨_, rfl, rfl, .inr ⟨⟨_, _, _, rfl, rfl, rfl, rfl⟩, rfl⟩⟩, .inr ⟨_, rfl, rfl, .inr ⟨⟨_, _, _, rfl, rfl, rfl, rfl⟩, rfl⟩⟩, .inr ⟨_, rfl, rfl, .inr ⟨⟨_, _, _, rfl, rfl, rfl, rfl⟩, rfl⟩⟩, .inr ⟨_, rfl, rfl, .inl ⟨rfl, Do.pickT rfl rfl⟩⟩, .inr ⟨_, rfl, rfl, .inl ⟨rfl, Do.move rfl⟩⟩, .inr ⟨_, rfl, rfl, .inr ⟨⟨_, _, _, rfl, rfl, rfl, rfl⟩, rfl⟩⟩, .inr ⟨_, rfl, rfl, .inr ⟨⟨_, _, _, rfl, rfl, rfl, rfl⟩, rfl⟩⟩, .inr ⟨_, rfl, rfl, .inr ⟨⟨_, _, _, rfl, rfl, rfl, rfl⟩, rfl⟩⟩, .inr ⟨_, rfl, rfl, .inl ⟨rfl, Do.pickT rfl rfl⟩⟩, .inr ⟨_, rfl, rfl, .inl ⟨rfl, Do.move rfl⟩⟩, .inr ⟨_, rfl, rfl, .inr ⟨⟨_, _, _, rfl, rfl, rfl, rfl⟩, rfl⟩⟩, .inr ⟨_, rfl, rfl, .inr ⟨⟨_, _, _, rfl, rfl, rfl, rfl⟩, rfl⟩⟩, .inr ⟨_, rfl, rfl, .inr ⟨⟨_, _, _, rfl, rfl, rfl, rfl⟩, rfl⟩⟩, .inr ⟨_, rfl, rfl, .inr ⟨⟨_, _, _, rfl, rfl, rfl, rfl⟩, rfl⟩⟩, .inr ⟨_, rfl, rfl, .inr ⟨⟨_, _, _, rfl, rfl, rfl, rfl⟩, rfl⟩⟩, .inr ⟨_, rfl, rfl, .inr ⟨⟨_, _, _, rfl, rfl, rfl, rfl⟩, rfl⟩⟩, .inr ⟨_, rfl, rfl, .inl ⟨rfl, Do.pickT rfl rfl⟩⟩, trivial⟩, by kernel_rfl, ?_⟩
      refine At.mono (E' := [(0, .func (.yield lp) #[] #[]), (1, .pointer (some ⟨bn, 0, none⟩)), (25, .bool true)]) ⟨rfl, rfl, rfl, trivial⟩ ?_
      refine At.condT rfl ?_
      refine At.seq ?_
      refine At.region ?_
      refine AtL.move (.inl rfl) rfl rfl ?_
      refine AtL.yield (.inl rfl) rfl rfl rfl (y_in (fun T' => hF f2 Hc2 hJ T')) ?_
      rintro _ _ ⟨bb, Hc3, rfl, rfl, hJ3, hK3⟩
      refine AtL.done ?_
      exact At.ret Tryz.func230 rfl rfl (⟨bb, f2, y, Hc3, fun h => hJ3 h, fun h => hK3 h, rfl, rfl⟩)
    · skip
      have hu0 := (y.getD 0 0).toNat_lt
      rcases Decidable.em ((y.getD 0 0).toNat = 0) with hz | hz
      · skip
        refine At.draw (es := []) (pv := [(0, str y), (1, .int .i64 (y.length : Int)), (2, .bool false), (3, .bool false), (4, str y), (5, .int .u8 ((y.getD 0 0).toNat : Int)), (6, .bool true), (7, .bool true), (8, .bool true), (9, undef), (10, undef), (11, undef), (12, .bool true), (13, .bool true), (14, undef), (15, undef), (16, undef), (17, undef), (18, undef), (19, undef), (20, .bool true)]) tf_mixed (by kernel_rfl) (by kernel_rfl) (by kernel_rfl) ?_
        refine ⟨⟨.inr ⟨_, rfl, rfl, .inl ⟨rfl, Do.load tf_flat9 rfl (Cell.own 0 0 rfl rfl rfl)⟩⟩, .inr ⟨_, rfl, rfl, .inl ⟨rfl, Do.lenS (l := y) Tryz.underlying9 rfl⟩⟩, .inr ⟨_, rfl, rfl, .inl ⟨rfl, Do.asBool (Do.eqi rfl rfl) (decide_eq_false (by omega))⟩⟩, .inr ⟨_, rfl, rfl, .inl ⟨rfl, Do.move rfl⟩⟩, .inr ⟨_, rfl, rfl, .inl ⟨⟨_, _, _, rfl, rfl, rfl, rfl⟩, Do.load tf_flat9 rfl (Cell.own 0 0 rfl rfl rfl)⟩⟩, .inr ⟨_, rfl, rfl, .inl ⟨⟨_, _, _, rfl, rfl, rfl, rfl⟩, Do.indexS (l := y) 0 rfl (by omega) Tryz.underlying9 rfl rfl⟩⟩, .inr ⟨_, rfl, rfl, .inl ⟨⟨_, _, _, rfl, rfl, rfl, rfl⟩, Do.asBool (Do.eqi rfl rfl) (decide_eq_true (by omega))⟩⟩, .inr ⟨_, rfl, rfl, .inl ⟨rfl, Do.pickF rfl rfl⟩⟩, .inr ⟨_, rfl, rfl, .inl ⟨rfl, Do.move rfl⟩⟩, .inr ⟨_, rfl, rfl, .inr ⟨⟨_, _, _, rfl, rfl, rfl, rfl⟩, rfl⟩⟩, .inr ⟨_, rfl, rfl, .inr ⟨⟨_, _, _, rfl, rfl, rfl, rfl⟩, rfl⟩⟩, .inr ⟨_, rfl, rfl, .inr ⟨⟨_, _, _, rfl, rfl, rfl, rfl⟩, rfl⟩⟩, .inr ⟨_, rfl, rfl, .inl ⟨rfl, Do.pickT rfl rfl⟩⟩, .inr ⟨_, rfl, rfl, .inl ⟨rfl, Do.move rfl⟩⟩, .inr ⟨_, rfl, rfl, .inr ⟨⟨_, _, _, rfl, rfl, rfl, rfl⟩, rfl⟩⟩, .inr ⟨_, rfl, rfl, .inr ⟨⟨_, _, _, rfl, rfl, rfl, rfl⟩, rfl⟩⟩, .inr ⟨_, rfl, rfl, .inr ⟨⟨_, _, _, rfl, rfl, rfl, rfl⟩, rfl⟩⟩, .inr ⟨_, rfl, rfl, .inr ⟨⟨_, _, _, rfl, rfl, rfl, rfl⟩, rfl⟩⟩, .inr ⟨_, rfl, rfl, .inr ⟨⟨_, _, _, rfl, rfl, rfl, rfl⟩, rfl⟩⟩, .inr ⟨_, rfl, rfl, .inr ⟨⟨_, _, _, rfl, rfl, rfl, rfl⟩, rfl⟩⟩, .inr ⟨_, rfl, rfl, .inl ⟨rfl, Do.pickT rfl rfl⟩⟩, trivial⟩, by kernel_rfl, ?_⟩
        refine At.mono (E' := [(0, .func (.yield lp) #[] #[]), (1, .pointer (some ⟨bn, 0, none⟩)), (25, .bool true)]) ⟨rfl, rfl, rfl, trivial⟩ ?_
        refine At.condT rfl ?_
        refine At.seq ?_
        refine At.region ?_
        refine AtL.move (.inl rfl) rfl rfl ?_
        refine AtL.yield (.inl rfl) rfl rfl rfl (y_in (fun T' => hF f2 Hc2 hJ T')) ?_
        rintro _ _ ⟨bb, Hc3, rfl, rfl, hJ3, hK3⟩
        refine AtL.done ?_
        exact At.ret Tryz.func230 rfl rfl (⟨bb, f2, y, Hc3, fun h => hJ3 h, fun h => hK3 h, rfl, rfl⟩)
      · skip
        rcases Decidable.em (63 < (y.getD 0 0).toNat) with hm | hm
        · skip
          refine At.draw (es := []) (pv := [(0, str y), (1, .int .i64 (y.length : Int)), (2, .bool false), (3, .bool false), (4, str y), (5, .int .u8 ((y.getD 0 0).toNat : Int)), (6, .bool false), (7, .bool false), (8, .bool false), (9, str y), (10, .int .u8 ((y.getD 0 0).toNat : Int)), (11, .bool true), (12, .bool true), (13, .bool true), (14, undef), (15, undef), (16, undef), (17, undef), (18, undef), (19, undef), (20, .bool true)]) tf_mixed (by kernel_rfl) (by kernel_rfl) (by kernel_rfl) ?_
          refine ⟨⟨.inr ⟨_, rfl, rfl, .inl ⟨rfl, Do.load tf_flat9 rfl (Cell.own 0 0 rfl rfl rfl)⟩⟩, .inr ⟨_, rfl, rfl, .inl ⟨rfl, Do.lenS (l := y) Tryz.underlying9 rfl⟩⟩, .inr ⟨_, rfl, rfl, .inl ⟨rfl, Do.asBool (Do.eqi rfl rfl) (decide_eq_false (by omega))⟩⟩, .inr ⟨_, rfl, rfl, .inl ⟨rfl, Do.move rfl⟩⟩, .inr ⟨_, rfl, rfl, .inl ⟨⟨_, _, _, rfl, rfl, rfl, rfl⟩, Do.load tf_flat9 rfl (Cell.own 0 0 rfl rfl rfl)⟩⟩, .inr ⟨_, rfl, rfl, .inl ⟨⟨_, _, _, rfl, rfl, rfl, rfl⟩, Do.indexS (l := y) 0 rfl (by omega) Tryz.underlying9 rfl rfl⟩⟩, .inr ⟨_, rfl, rfl, .inl ⟨⟨_, _, _, rfl, rfl, rfl, rfl⟩, Do.asBool (Do.eqi rfl rfl) (decide_eq_false (by omega))⟩⟩, .inr ⟨_, rfl, rfl, .inl ⟨rfl, Do.pickF rfl rfl⟩⟩, .inr ⟨_, rfl, rfl, .inl ⟨rfl, Do.move rfl⟩⟩, .inr ⟨_, rfl, rfl, .inl ⟨⟨_, _, _, rfl, rfl, rfl, rfl⟩, Do.load tf_flat9 rfl (Cell.own 0 0 rfl rfl rfl)⟩⟩, .inr ⟨_, rfl, rfl, .inl ⟨⟨_, _, _, rfl, rfl, rfl, rfl⟩, Do.indexS (l := y) 0 rfl (by omega) Tryz.underlying9 rfl rfl⟩⟩, .inr ⟨_, rfl, rfl, .inl ⟨⟨_, _, _, rfl, rfl, rfl, rfl⟩, Do.asBool (Do.gtr rfl rfl) (decide_eq_true (by omega))⟩⟩, .inr ⟨_, rfl, rfl, .inl ⟨rfl, Do.pickF rfl rfl⟩⟩, .inr ⟨_, rfl, rfl, .inl ⟨rfl, Do.move rfl⟩⟩, .inr ⟨_, rfl, rfl, .inr ⟨⟨_, _, _, rfl, rfl, rfl, rfl⟩, rfl⟩⟩, .inr ⟨_, rfl, rfl, .inr ⟨⟨_, _, _, rfl, rfl, rfl, rfl⟩, rfl⟩⟩, .inr ⟨_, rfl, rfl, .inr ⟨⟨_, _, _, rfl, rfl, rfl, rfl⟩, rfl⟩⟩, .inr ⟨_, rfl, rfl, .inr ⟨⟨_, _, _, rfl, rfl, rfl, rfl⟩, rfl⟩⟩, .inr ⟨_, rfl, rfl, .inr ⟨⟨_, _, _, rfl, rfl, rfl, rfl⟩, rfl⟩⟩, .inr ⟨_, rfl, rfl, .inr ⟨⟨_, _, _, rfl, rfl, rfl, rfl⟩, rfl⟩⟩, .inr ⟨_, rfl, rfl, .inl ⟨rfl, Do.pickT rfl rfl⟩⟩, trivial⟩, by kernel_rfl, ?_⟩
          refine At.mono (E' := [(0, .func (.yield lp) #[] #[]), (1, .pointer (some ⟨bn, 0, none⟩)), (25, .bool true)]) ⟨rfl, rfl, rfl, trivial⟩ ?_
          refine At.condT rfl ?_
          refine At.seq ?_
          refine At.region ?_
          refine AtL.move (.inl rfl) rfl rfl ?_
          refine AtL.yield (.inl rfl) rfl rfl rfl (y_in (fun T' => hF f2 Hc2 hJ T')) ?_
          rintro _ _ ⟨bb, Hc3, rfl, rfl, hJ3, hK3⟩
          refine AtL.done ?_
          exact At.ret Tryz.func230 rfl rfl (⟨bb, f2, y, Hc3, fun h => hJ3 h, fun h => hK3 h, rfl, rfl⟩)
        · skip
          obtain ⟨f, rfl⟩ : ∃ f, f2 = f + 1 := ⟨f2 - 1, by omega⟩
          have hB1 := u8_le (y.getD 0 0)
          refine At.draw (es := []) (pv := [(0, str y), (1, .int .i64 (y.length : Int)), (2, .bool false), (3, .bool false), (4, str y), (5, .int .u8 ((y.getD 0 0).toNat : Int)), (6, .bool false), (7, .bool false), (8, .bool false), (9, str y), (10, .int .u8 ((y.getD 0 0).toNat : Int)), (11, .bool false), (12, .bool false), (13, .bool false), (14, str y), (15, .int .u8 ((y.getD 0 0).toNat : Int)), (16, .int .i64 ((y.getD 0 0).toNat : Int)), (17, str y), (18, .int .i64 (y.length : Int)), (19, .bool (decide ((y.length : Int) ≤ ((y.getD 0 0).toNat : Int)))), (20, .bool (decide ((y.length : Int) ≤ ((y.getD 0 0).toNat : Int))))]) tf_mixed (by kernel_rfl) (by kernel_rfl) (by kernel_rfl) ?_
          refine ⟨⟨.inr ⟨_, rfl, rfl, .inl ⟨rfl, Do.load tf_flat9 rfl (Cell.own 0 0 rfl rfl rfl)⟩⟩, .inr ⟨_, rfl, rfl, .inl ⟨rfl, Do.lenS (l := y) Tryz.underlying9 rfl⟩⟩, .inr ⟨_, rfl, rfl, .inl ⟨rfl, Do.asBool (Do.eqi rfl rfl) (decide_eq_false (by omega))⟩⟩, .inr ⟨_, rfl, rfl, .inl ⟨rfl, Do.move rfl⟩⟩, .inr ⟨_, rfl, rfl, .inl ⟨⟨_, _, _, rfl, rfl, rfl, rfl⟩, Do.load tf_flat9 rfl (Cell.own 0 0 rfl rfl rfl)⟩⟩, .inr ⟨_, rfl, rfl, .inl ⟨⟨_, _, _, rfl, rfl, rfl, rfl⟩, Do.indexS (l := y) 0 rfl (by omega) Tryz.underlying9 rfl rfl⟩⟩, .inr ⟨_, rfl, rfl, .inl ⟨⟨_, _, _, rfl, rfl, rfl, rfl⟩, Do.asBool (Do.eqi rfl rfl) (decide_eq_false (by omega))⟩⟩, .inr ⟨_, rfl, rfl, .inl ⟨rfl, Do.pickF rfl rfl⟩⟩, .inr ⟨_, rfl, rfl, .inl ⟨rfl, Do.move rfl⟩⟩, .inr ⟨_, rfl, rfl, .inl ⟨⟨_, _, _, rfl, rfl, rfl, rfl⟩, Do.load tf_flat9 rfl (Cell.own 0 0 rfl rfl rfl)⟩⟩, .inr ⟨_, rfl, rfl, .inl ⟨⟨_, _, _, rfl, rfl, rfl, rfl⟩, Do.indexS (l := y) 0 rfl (by omega) Tryz.underlying9 rfl rfl⟩⟩, .inr ⟨_, rfl, rfl, .inl ⟨⟨_, _, _, rfl, rfl, rfl, rfl⟩, Do.asBool (Do.gtr rfl rfl) (decide_eq_false (by omega))⟩⟩, .inr ⟨_, rfl, rfl, .inl ⟨rfl, Do.pickF rfl rfl⟩⟩, .inr ⟨_, rfl, rfl, .inl ⟨rfl, Do.move rfl⟩⟩, .inr ⟨_, rfl, rfl, .inl ⟨⟨_, _, _, rfl, rfl, rfl, rfl⟩, Do.load tf_flat9 rfl (Cell.own 0 0 rfl rfl rfl)⟩⟩, .inr ⟨_, rfl, rfl, .inl ⟨⟨_, _, _, rfl, rfl, rfl, rfl⟩, Do.indexS (l := y) 0 rfl (by omega) Tryz.underlying9 rfl rfl⟩⟩, .inr ⟨_, rfl, rfl, .inl ⟨⟨_, _, _, rfl, rfl, rfl, rfl⟩, Do.convInt (z := ((y.getD 0 0).toNat : Int)) Tryz.underlying5 Tryz.underlying3 rfl (u8_i64 _)⟩⟩, .inr ⟨_, rfl, rfl, .inl ⟨⟨_, _, _, rfl, rfl, rfl, rfl⟩, Do.load tf_flat9 rfl (Cell.own 0 0 rfl rfl rfl)⟩⟩, .inr ⟨_, rfl, rfl, .inl ⟨⟨_, _, _, rfl, rfl, rfl, rfl⟩, Do.lenS (l := y) Tryz.underlying9 rfl⟩⟩, .inr ⟨_, rfl, rfl, .inl ⟨⟨_, _, _, rfl, rfl, rfl, rfl⟩, Do.geq rfl rfl⟩⟩, .inr ⟨_, rfl, rfl, .inl ⟨rfl, Do.pickF rfl rfl⟩⟩, trivial⟩, by kernel_rfl, ?_⟩
          refine At.mono (E' := [(0, .func (.yield lp) #[] #[]), (1, .pointer (some ⟨bn, 0, none⟩)), (25, .bool (decide ((y.length : Int) ≤ ((y.getD 0 0).toNat : Int))))]) ⟨rfl, rfl, rfl, trivial⟩ ?_
          refine At.cond rfl ?_ ?_
          · intro hc2
            have hc2 : (y.length : Int) ≤ ((y.getD 0 0).toNat : Int) := of_decide_eq_true hc2
            refine At.seq ?_
            refine At.region ?_
            refine AtL.move (.inl rfl) rfl rfl ?_
            refine AtL.yield (.inl rfl) rfl rfl rfl (y_in (fun T' => hF (f + 1) Hc2 hJ T')) ?_
            rintro _ _ ⟨bb, Hc3, rfl, rfl, hJ3, hK3⟩
            refine AtL.done ?_
            exact At.ret Tryz.func230 rfl rfl (⟨bb, (f + 1), y, Hc3, fun h => hJ3 h, fun h => hK3 h, rfl, rfl⟩)
          · intro hc2
            have hc2 : ¬ ((y.length : Int) ≤ ((y.getD 0 0).toNat : Int)) := of_decide_eq_false hc2
            refine At.skip ?_
            refine At.seq ?_
            refine At.seq ?_
            have hB2 := u8_le (y.getD 0 0)
            refine At.draw (es := [7]) (pv := [(0, .func (.yield lp) #[] #[]), (1, str y), (2, str y), (3, .int .u8 ((y.getD 0 0).toNat : Int)), (4, .int .i64 ((y.getD 0 0).toNat : Int)), (5, .int .i64 (1 + ((y.getD 0 0).toNat : Int))), (6, str (subl y 1 (1 + ((y.getD 0 0).toNat))))]) tf_mixed (by kernel_rfl) (by kernel_rfl) (by kernel_rfl) ?_
            refine ⟨⟨.inr ⟨_, rfl, rfl, .inl ⟨rfl, Do.move rfl⟩⟩, .inr ⟨_, rfl, rfl, .inl ⟨rfl, Do.load tf_flat9 rfl (Cell.own 0 0 rfl rfl rfl)⟩⟩, .inr ⟨_, rfl, rfl, .inl ⟨rfl, Do.load tf_flat9 rfl (Cell.own 0 0 rfl rfl rfl)⟩⟩, .inr ⟨_, rfl, rfl, .inl ⟨rfl, Do.indexS (l := y) 0 rfl (by omega) Tryz.underlying9 rfl rfl⟩⟩, .inr ⟨_, rfl, rfl, .inl ⟨rfl, Do.convInt (z := ((y.getD 0 0).toNat : Int)) Tryz.underlying5 Tryz.underlying3 rfl (u8_i64 _)⟩⟩, .inr ⟨_, rfl, rfl, .inl ⟨rfl, Do.add (z := 1 + ((y.getD 0 0).toNat : Int)) rfl rfl (w64 (by omega) (by omega))⟩⟩, .inr ⟨_, rfl, rfl, .inl ⟨rfl, Do.sliceS (l := y) 1 (1 + ((y.getD 0 0).toNat)) (evBound_some rfl rfl) (evBound_some rfl rfl) (by omega) (by omega) Tryz.underlying9 rfl⟩⟩, trivial⟩, rfl, rfl, by kernel_rfl, _, rfl, rfl, rfl, _, Do.yield rfl rfl (y_in (fun T' => hY (subl y 1 (1 + ((y.getD 0 0).toNat))) f Hc2 (by rw [subl_len (by omega)]; omega) hJ T')), ?_⟩
            rintro _ _ ⟨bb, Hc3, rfl, rfl, hJ3, hK3⟩
            refine ⟨[(8, .bool (!bb))], rfl, ?_⟩
            refine ⟨⟨.inr ⟨_, rfl, rfl, .inl ⟨rfl, Do.not rfl⟩⟩, .inl (by kernel_rfl), .inl (by kernel_rfl), .inl (by kernel_rfl), .inl (by kernel_rfl), .inl (by kernel_rfl), .inl (by kernel_rfl), .inl (by kernel_rfl), trivial⟩, by kernel_rfl, ?_⟩
            refine At.mono (E' := [(0, .func (.yield lp) #[] #[]), (1, .pointer (some ⟨bn, 0, none⟩)), (36, .bool (!bb))]) ⟨rfl, rfl, rfl, trivial⟩ ?_
            refine At.cond rfl ?_ ?_
            · intro hc3
              have hc3 : bb = false := bnot_true hc3
              exact At.ret Tryz.func230 rfl rfl (⟨false, 0, y, Hc3, fun h => (by cases h), fun _ => hK3 (by simpa using hc3), rfl, rfl⟩)
            · intro hc3
              have hc3 : bb = true := bnot_false hc3
              refine At.skip ?_
              have hB3 := u8_le (y.getD 0 0)
              refine At.draw (es := [6]) (pv := [(0, str y), (1, str y), (2, .int .u8 ((y.getD 0 0).toNat : Int)), (3, .int .i64 ((y.getD 0 0).toNat : Int)), (4, .int .i64 (1 + ((y.getD 0 0).toNat : Int))), (5, str (subl y (1 + ((y.getD 0 0).toNat)) y.length))]) tf_mixed (by kernel_rfl) (by kernel_rfl) (by kernel_rfl) ?_
              refine ⟨⟨.inr ⟨_, rfl, rfl, .inl ⟨rfl, Do.load tf_flat9 rfl (Cell.own 0 0 rfl rfl rfl)⟩⟩, .inr ⟨_, rfl, rfl, .inl ⟨rfl, Do.load tf_flat9 rfl (Cell.own 0 0 rfl rfl rfl)⟩⟩, .inr ⟨_, rfl, rfl, .inl ⟨rfl, Do.indexS (l := y) 0 rfl (by omega) Tryz.underlying9 rfl rfl⟩⟩, .inr ⟨_, rfl, rfl, .inl ⟨rfl, Do.convInt (z := ((y.getD 0 0).toNat : Int)) Tryz.underlying5 Tryz.underlying3 rfl (u8_i64 _)⟩⟩, .inr ⟨_, rfl, rfl, .inl ⟨rfl, Do.add (z := 1 + ((y.getD 0 0).toNat : Int)) rfl rfl (w64 (by omega) (by omega))⟩⟩, .inr ⟨_, rfl, rfl, .inl ⟨rfl, Do.sliceS (l := y) (1 + ((y.getD 0 0).toNat)) y.length (evBound_some rfl rfl) rfl (by omega) (by omega) Tryz.underlying9 rfl⟩⟩, trivial⟩, rfl, rfl, by kernel_rfl, _, rfl, rfl, rfl, _, Do.store (H' := [(bn, .cells #[str (subl y (1 + ((y.getD 0 0).toNat)) y.length)] 9 (0, 0))] :: (Hc3 ++ T)) 0 0 tf_sz9 rfl rfl rfl rfl rfl rfl rfl rfl rfl, ?_⟩
              rintro _ _ ⟨rfl, rfl⟩
              refine ⟨[], rfl, ?_⟩
              refine ⟨⟨.inl (by kernel_rfl), .inl (by kernel_rfl), .inl (by kernel_rfl), .inl (by kernel_rfl), .inl (by kernel_rfl), .inl (by kernel_rfl), trivial⟩, by kernel_rfl, ?_⟩
              refine At.mono (E' := [(0, .func (.yield lp) #[] #[]), (1, .pointer (some ⟨bn, 0, none⟩))]) ⟨rfl, rfl, trivial⟩ ?_
              refine At.inBlock ?_
              refine ihL1 (subl y (1 + ((y.getD 0 0).toNat)) y.length) f Hc3 (⟨by rw [subl_len (by omega)]; omega, hJ3 (by simpa using hc3), by rw [subl_len (by omega)]; omega⟩) (by rw [subl_len (by omega)]; omega) _ ?_
              exact ⟨rfl, rfl, trivial⟩
set_option maxHeartbeats 400000 in
theorem all_ok6 {w0 : World} {base : Nat} {H : List Seg} (n : List UInt8) :
    SCalls Tryz.prog 229 [str n] w0 base (H) (fun v H' => ∃ bn : Nat, v = .func (.func 230) #[] #[.pointer (some ⟨bn, 0, none⟩)] ∧ H' = [(bn, .cells #[str n] 9 (0, 0))] :: H) := by
  refine SCalls.of_walk (n := 4) Tryz.func229 rfl rfl rfl fun cs => ?_
  refine At.seq ?_
  refine At.region ?_
  refine AtL.box (cs := #[str n]) rfl (.inl rfl) rfl rfl ?_
  intro b1
  refine AtL.assign (.inl rfl) rfl rfl ?_
  refine AtL.done ?_
  refine At.seq ?_
  refine At.region ?_
  refine AtL.makeFunc (.inl rfl) rfl rfl rfl ?_
  refine AtL.assign (.inl rfl) rfl rfl ?_
  refine AtL.done ?_
  exact At.ret Tryz.func229 rfl rfl (⟨b1, rfl, rfl⟩)
set_option maxHeartbeats 400000 in
theorem labels_ok {w0 : World} {base : Nat} {H : List Seg} (n : List UInt8) (hn : n.length ≤ 65535) :
    SCalls Tryz.prog 227 [str n] w0 base (H) (fun v H' => ∃ (v0 : Value) (e : Int), v = .tuple #[v0, int e] ∧ H' = H) := by
  refine SCalls.of_walk (n := 21) Tryz.func227 rfl rfl rfl fun cs => ?_
  refine At.seq ?_
  refine At.region ?_
  refine AtL.alloc tf_zero109 (cs := #[.slice none 0 0]) rfl (.inl rfl) rfl ?_
  intro b1
  refine AtL.alloc tf_zero25 (cs := #[.int .i64 0]) rfl (.inl rfl) rfl ?_
  intro b2
  refine AtL.done ?_
  refine At.seq ?_
  refine At.region ?_
  refine AtL.alloc tf_zero109 (cs := #[.slice none 0 0]) rfl (.inl rfl) rfl ?_
  intro b3
  refine AtL.done ?_
  refine At.seq ?_
  refine At.seq ?_
  refine At.region ?_
  refine AtL.move (.inl rfl) rfl rfl ?_
  refine AtL.call tf_body229 (.inl rfl) rfl rfl (all_ok6 n) ?_
  rintro _ _ ⟨bn4, rfl, rfl⟩
  refine AtL.done ?_
  refine At.block ?_
  refine At.nil ?_
  refine At.pick (H' := [(bn4, .cells #[str n] 9 (0, 0))] :: [] :: [(b3, .cells #[.slice none 0 0] 109 (0, 0))] :: [(b1, .cells #[.slice none 0 0] 109 (0, 0))] :: [(b2, .cells #[.int .i64 0] 25 (0, 0))] :: H) [1, 0, 2, 4, 3] 5 rfl rfl ?_
  refine At.rangeF (R := (fun L lp rr v H' => ∃ (b : Bool) (y : List UInt8) (A : Option Addr) (C : Nat) (l : List (List UInt8)) (so : Seg) (L' : Loop) (e : Int), Own tyS 9 A C l so ∧ (b = true → L' = L) ∧ (b = false → L' = leftL L .ret) ∧ H' = [(bn4, .cells #[str y] 9 (0, 0))] :: [(lp, .loop L')] :: [(rr, .deferred (some []))] :: so :: [(b3, .cells #[.slice A l.length C] 109 (0, 0))] :: [(b1, .cells #[.slice none 0 0] 109 (0, 0))] :: [(b2, .cells #[.int .i64 e] 25 (0, 0))] :: H)) rfl tf_body230 rfl (fun lp => rfl) (fun L lp rr hL => ?_) (fun L lp rr v H1 hL hR => ?_)
  · skip
    refine SCalls.pick (H' := [(bn4, .cells #[str n] 9 (0, 0))] :: [(lp, .loop L)] :: [(rr, .deferred (some []))] :: [] :: [(b3, .cells #[.slice none 0 0] 109 (0, 0))] :: [(b1, .cells #[.slice none 0 0] 109 (0, 0))] :: [(b2, .cells #[.int .i64 0] 25 (0, 0))] :: H) [2, 0, 1, 3, 4, 5, 6] 7 rfl rfl ?_
    refine SCalls.mono (all1_ok (n := n) (T := H) (Hc := [[(lp, .loop L)], [(rr, .deferred (some []))], [], [(b3, .cells #[.slice none 0 0] 109 (0, 0))], [(b1, .cells #[.slice none 0 0] 109 (0, 0))], [(b2, .cells #[.int .i64 0] 25 (0, 0))]]) (J := (fun f Hc => ∃ (A : Option Addr) (C : Nat) (l : List (List UInt8)) (so : Seg), Own tyS 9 A C l so ∧ l.length + f ≤ n.length ∧ Hc = [[(lp, .loop L)], [(rr, .deferred (some []))], so, [(b3, .cells #[.slice A l.length C] 109 (0, 0))], [(b1, .cells #[.slice none 0 0] 109 (0, 0))], [(b2, .cells #[.int .i64 0] 25 (0, 0))]])) (K := (fun Hc => ∃ (A : Option Addr) (C : Nat) (l : List (List UInt8)) (so : Seg), Own tyS 9 A C l so ∧ Hc = [[(lp, .loop (leftL L .ret))], [(rr, .deferred (some []))], so, [(b3, .cells #[.slice A l.length C] 109 (0, 0))], [(b1, .cells #[.slice none 0 0] 109 (0, 0))], [(b2, .cells #[.int .i64 4] 25 (0, 0))]])) hn (fun u f Hc hul hJ T' => ?_) (fun f Hc hJ T' => ?_) ⟨none, 0, [], [], Own.nil tyS 9, by simp, rfl⟩) (fun v H' hp => ?_)
    · skip
      obtain ⟨A, C, l, so, o, hlf, rfl⟩ := hJ
      have hcapo := Own.cap_le o
      refine YCalls.walkL hL (i := 0) (j := 0) rfl rfl rfl rfl rfl (fun c cs => ?_)
      refine At.seq ?_
      refine At.region ?_
      refine AtL.assign (.inl rfl) rfl rfl ?_
      refine AtL.done ?_
      refine At.region ?_
      refine AtL.assign (.inl rfl) rfl rfl ?_
      refine AtL.done ?_
      refine At.beginL 0 0 hL rfl rfl rfl rfl ?_
      refine At.block ?_
      refine At.seq ?_
      refine At.seq ?_
      refine At.region ?_
      refine AtL.move (.inl rfl) rfl rfl ?_
      refine AtL.not (.inl rfl) rfl rfl ?_
      refine AtL.done ?_
      refine At.condF rfl ?_
      refine At.skip ?_
      refine At.region ?_
      refine AtL.load tf_flat109 (.inl rfl) rfl rfl (Cell.own 3 0 rfl rfl rfl) ?_
      refine AtL.move (.inl rfl) rfl rfl ?_
      refine AtL.buildSlice (cs := [str u]) Tryz.underlying109 tf_zero9 tf_sz9 rfl rfl (.inl rfl) rfl rfl rfl ?_
      intro b5
      refine AtL.own1 tyS (l := ([u] : List (List UInt8))) rfl rfl (by first | decide | simp) ?_
      intro s6 o7
      refine AtL.append (l := l) (news := [u]) 3 tf_el109 rfl o (o7.rd (i := 0) rfl) (by first | omega | (simp only [List.length_append, List.length_cons, List.length_nil]; omega) | (simp; done) | (simp; omega)) (.inl rfl) rfl rfl rfl ?_
      intro A8 C9 s10 o11
      refine AtL.store (H' := s6 :: [(lp, .loop (busyL L))] :: [(rr, .deferred (some []))] :: s10 :: [(b3, .cells #[.slice A8 (l ++ [u]).length C9] 109 (0, 0))] :: [(b1, .cells #[.slice none 0 0] 109 (0, 0))] :: [(b2, .cells #[.int .i64 0] 25 (0, 0))] :: T') 4 0 tf_sz109 (.inl rfl) rfl rfl rfl rfl rfl rfl rfl rfl rfl ?_
      refine AtL.done ?_
      refine At.inBlock ?_
      refine At.pick (H' := [(lp, .loop (busyL L))] :: [(rr, .deferred (some []))] :: s10 :: [(b3, .cells #[.slice A8 (l ++ [u]).length C9] 109 (0, 0))] :: [(b1, .cells #[.slice none 0 0] 109 (0, 0))] :: [(b2, .cells #[.int .i64 0] 25 (0, 0))] :: T') [1, 2, 3, 4, 5, 6] 7 rfl rfl ?_
      exact At.roundEndL 0 0 hL rfl rfl rfl (⟨true, [[(lp, .loop L)], [(rr, .deferred (some []))], s10, [(b3, .cells #[.slice A8 (l ++ [u]).length C9] 109 (0, 0))], [(b1, .cells #[.slice none 0 0] 109 (0, 0))], [(b2, .cells #[.int .i64 0] 25 (0, 0))]], rfl, rfl, fun _ => ⟨_, _, _, _, o11, by simp only [List.length_append, List.length_cons, List.length_nil]; omega, rfl⟩, fun h => (by cases h)⟩)
    · skip
      obtain ⟨A, C, l, so, o, hlf, rfl⟩ := hJ
      have hcapo := Own.cap_le o
      refine YCalls.walkL hL (i := 0) (j := 0) rfl rfl rfl rfl rfl (fun c cs => ?_)
      refine At.seq ?_
      refine At.region ?_
      refine AtL.assign (.inl rfl) rfl rfl ?_
      refine AtL.done ?_
      refine At.region ?_
      refine AtL.assign (.inl rfl) rfl rfl ?_
      refine AtL.done ?_
      refine At.beginL 0 0 hL rfl rfl rfl rfl ?_
      refine At.block ?_
      refine At.seq ?_
      refine At.seq ?_
      refine At.region ?_
      refine AtL.move (.inl rfl) rfl rfl ?_
      refine AtL.not (.inl rfl) rfl rfl ?_
      refine AtL.done ?_
      refine At.condT rfl ?_
      refine At.seq ?_
      refine At.region ?_
      refine AtL.store (H' := [(lp, .loop (busyL L))] :: [(rr, .deferred (some []))] :: so :: [(b3, .cells #[.slice A l.length C] 109 (0, 0))] :: [(b1, .cells #[.slice none 0 0] 109 (0, 0))] :: [(b2, .cells #[.int .i64 0] 25 (0, 0))] :: T') 4 0 tf_sz109 (.inl rfl) rfl rfl rfl rfl rfl rfl rfl rfl rfl ?_
      refine AtL.store (H' := [(lp, .loop (busyL L))] :: [(rr, .deferred (some []))] :: so :: [(b3, .cells #[.slice A l.length C] 109 (0, 0))] :: [(b1, .cells #[.slice none 0 0] 109 (0, 0))] :: [(b2, .cells #[.int .i64 4] 25 (0, 0))] :: T') 5 0 tf_sz25 (.inl rfl) rfl rfl rfl rfl rfl rfl rfl rfl rfl ?_
      refine AtL.done ?_
      exact At.roundRetL 0 0 rfl rfl rfl (⟨false, [[(lp, .loop (leftL L .ret))], [(rr, .deferred (some []))], so, [(b3, .cells #[.slice A l.length C] 109 (0, 0))], [(b1, .cells #[.slice none 0 0] 109 (0, 0))], [(b2, .cells #[.int .i64 4] 25 (0, 0))]], rfl, rfl, fun h => (by cases h), fun _ => ⟨_, _, _, _, o, rfl⟩⟩)
    · skip
      obtain ⟨b, f, y, Hc', h1, h2, rfl, rfl⟩ := hp
      cases b with
      | true => obtain ⟨A, C, l, so, o, _, rfl⟩ := h1 rfl; exact ⟨true, y, A, C, l, so, L, 0, o, fun _ => rfl, fun h => (by cases h), rfl⟩
      | false => obtain ⟨A, C, l, so, o, rfl⟩ := h2 rfl; exact ⟨false, y, A, C, l, so, leftL L .ret, 4, o, fun h => (by cases h), fun _ => rfl, rfl⟩
  · skip
    obtain ⟨b, y, A, C, l, so, L', e, o, h1, h2, rfl⟩ := hR
    cases b with
    | true =>
      obtain rfl := h1 rfl
      refine ⟨1, 0, _, _, _, rfl, rfl, loop_ready hL, rfl, ?_⟩
      rw [loop_dry hL]
      refine At.inBlock ?_
      refine At.seq ?_
      refine At.seq ?_
      refine At.region ?_
      refine AtL.move (.inl rfl) rfl rfl ?_
      refine AtL.lenS (l := n) Tryz.underlying9 (.inl rfl) rfl rfl ?_
      refine AtL.gtr (.inl rfl) rfl rfl rfl ?_
      refine AtL.done ?_
      refine At.cond rfl ?_ ?_
      · intro hc2
        have hc2 : 255 < (n.length : Int) := of_decide_eq_true hc2
        refine At.seq ?_
        refine At.region ?_
        refine AtL.store (H' := [(bn4, .cells #[str y] 9 (0, 0))] :: [(lp, .loop (overL L'))] :: [(rr, .deferred (some []))] :: so :: [(b3, .cells #[.slice A l.length C] 109 (0, 0))] :: [(b1, .cells #[.slice none 0 0] 109 (0, 0))] :: [(b2, .cells #[.int .i64 e] 25 (0, 0))] :: H) 5 0 tf_sz109 (.inl rfl) rfl rfl rfl rfl rfl rfl rfl rfl rfl ?_
        refine AtL.store (H' := [(bn4, .cells #[str y] 9 (0, 0))] :: [(lp, .loop (overL L'))] :: [(rr, .deferred (some []))] :: so :: [(b3, .cells #[.slice A l.length C] 109 (0, 0))] :: [(b1, .cells #[.slice none 0 0] 109 (0, 0))] :: [(b2, .cells #[.int .i64 3] 25 (0, 0))] :: H) 6 0 tf_sz25 (.inl rfl) rfl rfl rfl rfl rfl rfl rfl rfl rfl ?_
        refine AtL.done ?_
        refine At.retU rfl ?_
        refine Un.collected (i := 2) (j := 0) rfl rfl rfl rfl ?_
        exact Un.leftP (vs := [.slice none 0 0, .int .i64 3]) (H2 := H) [] 7 rfl rfl Tryz.func227 rfl ⟨⟨_, rfl, LoadsTo.flat tf_flat109 (Cell.own 5 0 rfl rfl rfl)⟩, ⟨_, rfl, LoadsTo.flat tf_flat25 (Cell.own 6 0 rfl rfl rfl)⟩, trivial⟩ (⟨_, _, rfl, rfl⟩)
      · intro hc2
        have hc2 : ¬ (255 < (n.length : Int)) := of_decide_eq_false hc2
        refine At.skip ?_
        refine At.seq ?_
        refine At.region ?_
        refine AtL.load tf_flat109 (.inl rfl) rfl rfl (Cell.own 4 0 rfl rfl rfl) ?_
        refine AtL.store (H' := [(bn4, .cells #[str y] 9 (0, 0))] :: [(lp, .loop (overL L'))] :: [(rr, .deferred (some []))] :: so :: [(b3, .cells #[.slice A l.length C] 109 (0, 0))] :: [(b1, .cells #[.slice A l.length C] 109 (0, 0))] :: [(b2, .cells #[.int .i64 e] 25 (0, 0))] :: H) 5 0 tf_sz109 (.inl rfl) rfl rfl rfl rfl rfl rfl rfl rfl rfl ?_
        refine AtL.store (H' := [(bn4, .cells #[str y] 9 (0, 0))] :: [(lp, .loop (overL L'))] :: [(rr, .deferred (some []))] :: so :: [(b3, .cells #[.slice A l.length C] 109 (0, 0))] :: [(b1, .cells #[.slice A l.length C] 109 (0, 0))] :: [(b2, .cells #[.int .i64 0] 25 (0, 0))] :: H) 6 0 tf_sz25 (.inl rfl) rfl rfl rfl rfl rfl rfl rfl rfl rfl ?_
        refine AtL.done ?_
        refine At.retU rfl ?_
        refine Un.collected (i := 2) (j := 0) rfl rfl rfl rfl ?_
        exact Un.leftP (vs := [.slice A l.length C, .int .i64 0]) (H2 := H) [] 7 rfl rfl Tryz.func227 rfl ⟨⟨_, rfl, LoadsTo.flat tf_flat109 (Cell.own 5 0 rfl rfl rfl)⟩, ⟨_, rfl, LoadsTo.flat tf_flat25 (Cell.own 6 0 rfl rfl rfl)⟩, trivial⟩ (⟨_, _, rfl, rfl⟩)
    | false =>
      obtain rfl := h2 rfl
      refine ⟨1, 0, _, _, _, rfl, rfl, loop_left, rfl, ?_⟩
      show At _ (.code .ret :: _) _ _ _
      refine At.retU rfl ?_
      refine Un.collected (i := 2) (j := 0) rfl rfl rfl rfl ?_
      exact Un.leftP (vs := [.slice none 0 0, .int .i64 e]) (H2 := H) [] 7 rfl rfl Tryz.func227 rfl ⟨⟨_, rfl, LoadsTo.flat tf_flat109 (Cell.own 5 0 rfl rfl rfl)⟩, ⟨_, rfl, LoadsTo.flat tf_flat25 (Cell.own 6 0 rfl rfl rfl)⟩, trivial⟩ (⟨_, _, rfl, rfl⟩)
set_option maxHeartbeats 400000 in
theorem ncheck_ok {w0 : World} {base : Nat} {H : List Seg} (n : List UInt8) (hn : n.length ≤ 65535) :
    SCalls Tryz.prog 221 [str n] w0 base (H) (fun v H' => ∃ e : Int, v = int e ∧ H' = H) := by
  refine SCalls.of_walk (n := 11) Tryz.func221 rfl rfl rfl fun cs => ?_
  refine At.seq ?_
  refine At.region ?_
  refine AtL.assign (.inl rfl) rfl rfl ?_
  refine AtL.done ?_
  refine At.seq ?_
  refine At.region ?_
  refine AtL.move (.inl rfl) rfl rfl ?_
  refine AtL.call tf_body227 (.inl rfl) rfl rfl (labels_ok n (by omega)) ?_
  rintro _ _ ⟨v1, e2, rfl, hHq⟩
  obtain rfl := hHq.symm
  refine AtL.move (.inl rfl) rfl rfl ?_
  refine AtL.extract (.inl rfl) rfl rfl rfl ?_
  refine AtL.extract (.inl rfl) rfl rfl rfl ?_
  refine AtL.assign (.inl rfl) rfl rfl ?_
  refine AtL.assign (.inl rfl) rfl rfl ?_
  refine AtL.done ?_
  refine At.seq ?_
  refine At.region ?_
  refine AtL.move (.inl rfl) rfl rfl ?_
  refine AtL.assign (.inl rfl) rfl rfl ?_
  refine AtL.done ?_
  exact At.ret Tryz.func221 rfl rfl (⟨_, rfl, rfl⟩)
end Go.Proofs.YtlkdmbpbjhjkfaaGreatDoor
namespace Go.Proofs.YtlkdmbpbjhjkfaaGreatDoor
set_option linter.unusedVariables false
set_option linter.unusedSimpArgs false
set_option maxRecDepth 100000
set_option maxHeartbeats 400000 in
theorem at1_ret {w0 : World} {base : Nat} {H : List Seg} {b : Nat} {x : Value} :
    DCalls Tryz.prog 222 [.pointer (some ⟨b, 0, none⟩)] w0 base ([(b, .cells #[x] 25 (0, 0))] :: H) .returning (fun m' H' => m' = .returning ∧ H' = [(b, .cells #[x] 25 (0, 0))] :: H) := by
  refine DCalls.of_walk (n := 14) Tryz.func222 rfl rfl rfl fun fr cs => ?_
  refine At.seq ?_
  refine At.region ?_
  refine AtL.recoverNone rfl ?_
  refine AtL.assign (.inl rfl) rfl rfl ?_
  refine AtL.done ?_
  refine At.seq ?_
  refine At.seq ?_
  refine At.region ?_
  refine AtL.move (.inl rfl) rfl rfl ?_
  refine AtL.typeAssert (u := .tuple #[.nilIface, .bool false]) (.inl rfl) rfl rfl (fun w => by kernel_rfl) ?_
  refine AtL.move (.inl rfl) rfl rfl ?_
  refine AtL.extract (.inl rfl) rfl rfl rfl ?_
  refine AtL.extract (.inl rfl) rfl rfl rfl ?_
  refine AtL.assign (.inl rfl) rfl rfl ?_
  refine AtL.assign (.inl rfl) rfl rfl ?_
  refine AtL.done ?_
  refine At.seq ?_
  refine At.region ?_
  refine AtL.move (.inl rfl) rfl rfl ?_
  refine AtL.done ?_
  refine At.condF rfl ?_
  refine At.skip ?_
  refine At.seq ?_
  refine At.region ?_
  refine AtL.move (.inl rfl) rfl rfl ?_
  refine AtL.neNilIface Tryz.underlying20 (.inl rfl) rfl rfl ?_
  refine AtL.done ?_
  refine At.condF rfl ?_
  refine At.skip ?_
  refine At.endU rfl ?_
  exact Un.leftD (vs := []) Tryz.func222 rfl trivial (⟨rfl, rfl⟩)
set_option maxHeartbeats 400000 in
theorem at1_bad {w0 : World} {base : Nat} {H : List Seg} {b : Nat} {x : Value} (i m : Int) (s : Bool) :
    DCalls Tryz.prog 222 [.pointer (some ⟨b, 0, none⟩)] w0 base ([(b, .cells #[x] 25 (0, 0))] :: H) (.panicking [{ v := .iface Tryz.prog.rt.boundsError (.agg #[.int .i64 i, .int .i64 m, .bool s, .int .u8 0]), recovered := false }]) (fun m' H' => m' = .returning ∧ H' = [(b, .cells #[int 4] 25 (0, 0))] :: H) := by
  refine DCalls.of_walk (n := 14) Tryz.func222 rfl rfl rfl fun fr cs => ?_
  refine At.seq ?_
  refine At.region ?_
  refine AtL.recoverSome rfl ?_
  refine AtL.assign (.inl rfl) rfl rfl ?_
  refine AtL.done ?_
  refine At.seq ?_
  refine At.seq ?_
  refine At.region ?_
  refine AtL.move (.inl rfl) rfl rfl ?_
  refine AtL.typeAssert (u := .tuple #[.iface Tryz.prog.rt.boundsError (.agg #[.int .i64 i, .int .i64 m, .bool s, .int .u8 0]), .bool true]) (.inl rfl) rfl rfl (fun w => by kernel_rfl) ?_
  refine AtL.move (.inl rfl) rfl rfl ?_
  refine AtL.extract (.inl rfl) rfl rfl rfl ?_
  refine AtL.extract (.inl rfl) rfl rfl rfl ?_
  refine AtL.assign (.inl rfl) rfl rfl ?_
  refine AtL.assign (.inl rfl) rfl rfl ?_
  refine AtL.done ?_
  refine At.seq ?_
  refine At.region ?_
  refine AtL.move (.inl rfl) rfl rfl ?_
  refine AtL.done ?_
  refine At.condT rfl ?_
  refine At.seq ?_
  refine At.region ?_
  refine AtL.store (H' := [(b, .cells #[.int .i64 4] 25 (0, 0))] :: H) 0 0 tf_sz25 (.inl rfl) rfl rfl rfl rfl rfl rfl rfl rfl rfl ?_
  refine AtL.done ?_
  refine At.retU rfl ?_
  exact Un.leftD (vs := []) Tryz.func222 rfl trivial (⟨rfl, rfl⟩)
set_option maxHeartbeats 400000 in
theorem at_any {w0 : World} {base : Nat} {H : List Seg} {A : Option Addr} {C : Nat} {l : List UInt8} (h : Rd tyB w0 base H A C l) (i : Int) :
    SCalls Tryz.prog 207 [.slice A l.length C, .int .i64 i] w0 base (H) (fun v H' => ∃ (c : UInt8) (e : Int), v = .tuple #[.int .u8 c.toNat, int e] ∧ H' = H) := by
  refine SCalls.of_walk (n := 11) Tryz.func207 rfl rfl rfl fun cs => ?_
  refine At.seq ?_
  refine At.region ?_
  refine AtL.assign (.inl rfl) rfl rfl ?_
  refine AtL.alloc tf_zero25 (cs := #[.int .i64 0]) rfl (.inl rfl) rfl ?_
  intro b1
  refine AtL.done ?_
  refine At.seq ?_
  refine At.region ?_
  refine AtL.makeFunc (.inl rfl) rfl rfl rfl ?_
  refine AtL.defer rfl (.inl rfl) rfl rfl rfl ?_
  refine AtL.done ?_
  refine At.seq ?_
  refine At.region ?_
  refine AtL.move (.inl rfl) rfl rfl ?_
  refine AtL.move (.inl rfl) rfl rfl ?_
  rcases Classical.em (0 ≤ i ∧ i < (l.length : Int)) with hin | hin
  · skip
    obtain ⟨j, hj⟩ : ∃ j : Nat, i = (j : Int) := ⟨(i).toNat, by omega⟩
    refine AtL.indexL j (Rd.skip 1 h) Tryz.underlying22 tf_sz5 (.inl rfl) rfl rfl rfl hj (by omega) ?_
    refine AtL.load (v := .int .u8 ((l.getD j 0).toNat : Int)) tf_flat5 (.inl rfl) rfl rfl (Rd.cell0 (Rd.skip 1 h) (getD_some 0 (by omega)) rfl) ?_
    refine AtL.assign (.inl rfl) rfl rfl ?_
    refine AtL.store (H' := [(b1, .cells #[.int .i64 0] 25 (0, 0))] :: H) 0 0 tf_sz25 (.inl rfl) rfl rfl rfl rfl rfl rfl rfl rfl rfl ?_
    refine AtL.done ?_
    refine At.retU rfl ?_
    refine Un.defer tf_body222 rfl rfl at1_ret ?_
    rintro _ _ ⟨rfl, rfl⟩
    exact Un.leftP (vs := [.int .u8 ((l.getD j 0).toNat : Int), .int .i64 0]) (H2 := H) [] 1 rfl rfl Tryz.func207 rfl ⟨rfl, ⟨_, rfl, LoadsTo.flat tf_flat25 (Cell.own 0 0 rfl rfl rfl)⟩, trivial⟩ (⟨_, _, rfl, rfl⟩)
  · skip
    refine AtL.indexPanics Tryz.underlying22 (.inl rfl) rfl rfl (by omega) ?_
    intro m s
    refine Un.defer tf_body222 rfl rfl (at1_bad _ _ _) ?_
    rintro _ _ ⟨rfl, rfl⟩
    exact Un.leftP (vs := [.int .u8 0, .int .i64 4]) (H2 := H) [] 1 rfl rfl Tryz.func207 rfl ⟨rfl, ⟨_, rfl, LoadsTo.flat tf_flat25 (Cell.own 0 0 rfl rfl rfl)⟩, trivial⟩ (⟨0, _, rfl, rfl⟩)
set_option maxHeartbeats 400000 in
theorem get4_any {w0 : World} {base : Nat} {H : List Seg} {A : Option Addr} {C : Nat} {l : List UInt8} (h : Rd tyB w0 base H A C l) (i : Int) (hi : -1000 ≤ i) (hi2 : i ≤ 4611686018427387904) (hl : l.length ≤ 4611686018427387904) :
    SCalls Tryz.prog 181 [.slice A l.length C, .int .i64 i, .int .i64 4] w0 base (H) (fun v H' => ∃ a b c d : Int, v = .tuple #[int a, int b, .agg #[int c, int d]] ∧ H' = H) := by
  refine SCalls.of_walk (n := 51) Tryz.func181 rfl rfl rfl fun cs => ?_
  refine At.seq ?_
  refine At.region ?_
  refine AtL.assign (.inl rfl) rfl rfl ?_
  refine AtL.assign (.inl rfl) rfl rfl ?_
  refine AtL.alloc tf_zero133 (cs := #[.int .i64 0, .int .i64 0]) rfl (.inl rfl) rfl ?_
  intro b1
  refine AtL.done ?_
  refine At.seq ?_
  refine At.seq ?_
  refine At.region ?_
  refine AtL.move (.inl rfl) rfl rfl ?_
  refine AtL.lss (.inl rfl) rfl rfl rfl ?_
  refine AtL.move (.inl rfl) rfl rfl ?_
  refine AtL.join 5 (E' := [(20, .bool (decide (((i : Int) < 0) ∨ ((l.length : Int) < i)))), (0, .slice A l.length C), (1, .int .i64 i), (2, .int .i64 4), (8, .pointer (some ⟨b1, 0, none⟩))]) (H' := [(b1, .cells #[.int .i64 0, .int .i64 0] 133 (0, 0))] :: H) (fun J => ?_) ?_
  · refine AtL.split (t := 15) rfl ?_ ?_
    · intro hs15
      have hs15 : (i : Int) < 0 := of_decide_eq_true hs15
      refine AtL.skipped rfl rfl rfl rfl rfl rfl ?_
      refine AtL.skipped rfl rfl rfl rfl rfl rfl ?_
      refine AtL.skipped rfl rfl rfl rfl rfl rfl ?_
      refine AtL.skipped rfl rfl rfl rfl rfl rfl ?_
      refine AtL.pickT (.inl rfl) rfl rfl rfl ?_
      exact J _ (by exact ⟨(boolIs (by clear J; first | (simp [hs15]; done) | (simp_all; done) | grind)), rfl, rfl, rfl, rfl, trivial⟩)
    · intro hs15
      have hs15 : ¬ ((i : Int) < 0) := of_decide_eq_false hs15
      refine AtL.move (.inr ⟨_, _, _, rfl, rfl, rfl, rfl⟩) rfl rfl ?_
      refine AtL.move (.inr ⟨_, _, _, rfl, rfl, rfl, rfl⟩) rfl rfl ?_
      refine AtL.lenL Tryz.underlying22 (.inr ⟨_, _, _, rfl, rfl, rfl, rfl⟩) rfl rfl ?_
      refine AtL.gtr (.inr ⟨_, _, _, rfl, rfl, rfl, rfl⟩) rfl rfl rfl ?_
      refine AtL.pickF (.inl rfl) rfl rfl rfl ?_
      exact J _ (by exact ⟨(boolIs (by clear J; first | (simp [hs15]; done) | (simp_all; done) | grind)), rfl, rfl, rfl, rfl, trivial⟩)
  · skip
    refine AtL.done ?_
    refine At.cond rfl ?_ ?_
    · intro hc1
      have hc1 : ((i : Int) < 0) ∨ ((l.length : Int) < i) := of_decide_eq_true hc1
      refine At.seq ?_
      refine At.region ?_
      refine AtL.build (cs := [.int .i64 5, .int .i64 0]) tf_lay133 (.inl rfl) rfl rfl rfl ?_
      refine AtL.assign (.inl rfl) rfl rfl ?_
      refine AtL.assign (.inl rfl) rfl rfl ?_
      refine AtL.store (H' := [(b1, .cells #[.int .i64 5, .int .i64 0] 133 (0, 0))] :: H) 0 0 tf_sz133 (.inl rfl) rfl rfl rfl rfl rfl rfl rfl rfl rfl ?_
      refine AtL.done ?_
      exact At.retMP (vs := [.int .i64 0, .int .i64 0, .agg #[.int .i64 5, .int .i64 0]]) (H2 := H) [] 1 rfl rfl Tryz.func181 rfl ⟨rfl, rfl, ⟨_, rfl, LoadsTo.agg (cs := [.int .i64 5, .int .i64 0]) tf_agg133 rfl (cellsOwn 0 0 0 rfl rfl rfl)⟩, trivial⟩ (⟨_, _, _, _, rfl, rfl⟩)
    · intro hc1
      have hc1 : ¬ (((i : Int) < 0) ∨ ((l.length : Int) < i)) := of_decide_eq_false hc1
      refine At.skip ?_
      refine At.seq ?_
      refine At.region ?_
      refine AtL.assign (.inl rfl) rfl rfl ?_
      refine AtL.done ?_
      refine At.seq ?_
      refine At.seq ?_
      refine At.region ?_
      refine AtL.move (.inl rfl) rfl rfl ?_
      refine AtL.move (.inl rfl) rfl rfl ?_
      refine AtL.done ?_
      refine At.block ?_
      refine At.unroll ?_
      refine At.seq ?_
      refine At.region ?_
      refine AtL.lss (.inl rfl) rfl rfl rfl ?_
      refine AtL.done ?_
      refine At.seq ?_
      refine At.condT rfl ?_
      refine At.skip ?_
      refine At.seq ?_
      refine At.block ?_
      refine At.seq ?_
      refine At.region ?_
      refine AtL.move (.inl rfl) rfl rfl ?_
      refine AtL.assign (.inl rfl) rfl rfl ?_
      refine AtL.done ?_
      refine At.seq ?_
      refine At.region ?_
      refine AtL.move (.inl rfl) rfl rfl ?_
      refine AtL.move (.inl rfl) rfl rfl ?_
      refine AtL.move (.inl rfl) rfl rfl ?_
      refine AtL.add (z := i + 0) (.inl rfl) rfl rfl rfl (w64 (by omega) (by omega)) ?_
      refine AtL.call tf_body207 (.inl rfl) rfl rfl (at_any (l := l) (Rd.skip 1 h) (i + 0)) ?_
      rintro _ _ ⟨c2, e3, rfl, rfl⟩
      refine AtL.move (.inl rfl) rfl rfl ?_
      refine AtL.extract (.inl rfl) rfl rfl rfl ?_
      refine AtL.extract (.inl rfl) rfl rfl rfl ?_
      refine AtL.assign (.inl rfl) rfl rfl ?_
      refine AtL.assign (.inl rfl) rfl rfl ?_
      refine AtL.done ?_
      refine At.seq ?_
      refine At.seq ?_
      refine At.region ?_
      refine AtL.move (.inl rfl) rfl rfl ?_
      refine AtL.nei (.inl rfl) rfl rfl rfl ?_
      refine AtL.done ?_
      refine At.cond rfl ?_ ?_
      · intro hc3
        have hc3 : ¬ ((e3 : Int) = 0) := of_decide_eq_false (bnot_true hc3)
        refine At.seq ?_
        refine At.region ?_
        refine AtL.move (.inl rfl) rfl rfl ?_
        refine AtL.move (.inl rfl) rfl rfl ?_
        refine AtL.lenL Tryz.underlying22 (.inl rfl) rfl rfl ?_
        refine AtL.build (cs := [.int .i64 e3, .int .i64 (l.length : Int)]) tf_lay133 (.inl rfl) rfl rfl rfl ?_
        refine AtL.assign (.inl rfl) rfl rfl ?_
        refine AtL.assign (.inl rfl) rfl rfl ?_
        refine AtL.store (H' := [(b1, .cells #[.int .i64 e3, .int .i64 (l.length : Int)] 133 (0, 0))] :: H) 0 0 tf_sz133 (.inl rfl) rfl rfl rfl rfl rfl rfl rfl rfl rfl ?_
        refine AtL.done ?_
        exact At.retMP (vs := [.int .i64 0, .int .i64 0, .agg #[.int .i64 e3, .int .i64 (l.length : Int)]]) (H2 := H) [] 1 rfl rfl Tryz.func181 rfl ⟨rfl, rfl, ⟨_, rfl, LoadsTo.agg (cs := [.int .i64 e3, .int .i64 (l.length : Int)]) tf_agg133 rfl (cellsOwn 0 0 0 rfl rfl rfl)⟩, trivial⟩ (⟨_, _, _, _, rfl, rfl⟩)
      · intro hc3
        have hc3 : (e3 : Int) = 0 := of_decide_eq_true (bnot_false hc3)
        refine At.skip ?_
        refine At.region ?_
        refine AtL.move (.inl rfl) rfl rfl ?_
        obtain ⟨z4, hz4⟩ : ∃ z : Int, IntKind.i64.wrap (0 * 2 ^ (min ((8 : Int).toNat) (IntKind.i64).bits)) = z := ⟨_, rfl⟩
        refine AtL.shl (z := z4) (.inl rfl) rfl rfl rfl (by omega) hz4 ?_
        refine AtL.move (.inl rfl) rfl rfl ?_
        have hB5 := u8_le (c2)
        refine AtL.convInt (z := (c2.toNat : Int)) Tryz.underlying5 Tryz.underlying3 (.inl rfl) rfl rfl (u8_i64 _) ?_
        obtain ⟨z6, hz6⟩ : ∃ z : Int, IntKind.i64.wrap ((BitVec.ofInt (IntKind.i64).bits z4 ||| BitVec.ofInt (IntKind.i64).bits (c2.toNat : Int)).toNat : Int) = z := ⟨_, rfl⟩
        refine AtL.bor (z := z6) (.inl rfl) rfl rfl rfl hz6 ?_
        refine AtL.assign (.inl rfl) rfl rfl ?_
        refine AtL.done ?_
        refine At.inBlock ?_
        refine At.region ?_
        refine AtL.add (z := 1) (.inl rfl) rfl rfl rfl (by decide) ?_
        refine AtL.move (.inl rfl) rfl rfl ?_
        refine AtL.done ?_
        refine At.again ?_
        refine At.seq ?_
        refine At.region ?_
        refine AtL.lss (.inl rfl) rfl rfl rfl ?_
        refine AtL.done ?_
        refine At.seq ?_
        refine At.condT rfl ?_
        refine At.skip ?_
        refine At.seq ?_
        refine At.block ?_
        refine At.seq ?_
        refine At.region ?_
        refine AtL.move (.inl rfl) rfl rfl ?_
        refine AtL.assign (.inl rfl) rfl rfl ?_
        refine AtL.done ?_
        refine At.seq ?_
        refine At.region ?_
        refine AtL.move (.inl rfl) rfl rfl ?_
        refine AtL.move (.inl rfl) rfl rfl ?_
        refine AtL.move (.inl rfl) rfl rfl ?_
        refine AtL.add (z := i + 1) (.inl rfl) rfl rfl rfl (w64 (by omega) (by omega)) ?_
        refine AtL.call tf_body207 (.inl rfl) rfl rfl (at_any (l := l) (Rd.skip 1 h) (i + 1)) ?_
        rintro _ _ ⟨c7, e8, rfl, rfl⟩
        refine AtL.move (.inl rfl) rfl rfl ?_
        refine AtL.extract (.inl rfl) rfl rfl rfl ?_
        refine AtL.extract (.inl rfl) rfl rfl rfl ?_
        refine AtL.assign (.inl rfl) rfl rfl ?_
        refine AtL.assign (.inl rfl) rfl rfl ?_
        refine AtL.done ?_
        refine At.seq ?_
        refine At.seq ?_
        refine At.region ?_
        refine AtL.move (.inl rfl) rfl rfl ?_
        refine AtL.nei (.inl rfl) rfl rfl rfl ?_
        refine AtL.done ?_
        refine At.cond rfl ?_ ?_
        · intro hc3
          have hc3 : ¬ ((e8 : Int) = 0) := of_decide_eq_false (bnot_true hc3)
          refine At.seq ?_
          refine At.region ?_
          refine AtL.move (.inl rfl) rfl rfl ?_
          refine AtL.move (.inl rfl) rfl rfl ?_
          refine AtL.lenL Tryz.underlying22 (.inl rfl) rfl rfl ?_
          refine AtL.build (cs := [.int .i64 e8, .int .i64 (l.length : Int)]) tf_lay133 (.inl rfl) rfl rfl rfl ?_
          refine AtL.assign (.inl rfl) rfl rfl ?_
          refine AtL.assign (.inl rfl) rfl rfl ?_
          refine AtL.store (H' := [(b1, .cells #[.int .i64 e8, .int .i64 (l.length : Int)] 133 (0, 0))] :: H) 0 0 tf_sz133 (.inl rfl) rfl rfl rfl rfl rfl rfl rfl rfl rfl ?_
          refine AtL.done ?_
          exact At.retMP (vs := [.int .i64 0, .int .i64 0, .agg #[.int .i64 e8, .int .i64 (l.length : Int)]]) (H2 := H) [] 1 rfl rfl Tryz.func181 rfl ⟨rfl, rfl, ⟨_, rfl, LoadsTo.agg (cs := [.int .i64 e8, .int .i64 (l.length : Int)]) tf_agg133 rfl (cellsOwn 0 0 0 rfl rfl rfl)⟩, trivial⟩ (⟨_, _, _, _, rfl, rfl⟩)
        · intro hc3
          have hc3 : (e8 : Int) = 0 := of_decide_eq_true (bnot_false hc3)
          refine At.skip ?_
          refine At.region ?_
          refine AtL.move (.inl rfl) rfl rfl ?_
          obtain ⟨z9, hz9⟩ : ∃ z : Int, IntKind.i64.wrap (z6 * 2 ^ (min ((8 : Int).toNat) (IntKind.i64).bits)) = z := ⟨_, rfl⟩
          refine AtL.shl (z := z9) (.inl rfl) rfl rfl rfl (by omega) hz9 ?_
          refine AtL.move (.inl rfl) rfl rfl ?_
          have hB10 := u8_le (c7)
          refine AtL.convInt (z := (c7.toNat : Int)) Tryz.underlying5 Tryz.underlying3 (.inl rfl) rfl rfl (u8_i64 _) ?_
          obtain ⟨z11, hz11⟩ : ∃ z : Int, IntKind.i64.wrap ((BitVec.ofInt (IntKind.i64).bits z9 ||| BitVec.ofInt (IntKind.i64).bits (c7.toNat : Int)).toNat : Int) = z := ⟨_, rfl⟩
          refine AtL.bor (z := z11) (.inl rfl) rfl rfl rfl hz11 ?_
          refine AtL.assign (.inl rfl) rfl rfl ?_
          refine AtL.done ?_
          refine At.inBlock ?_
          refine At.region ?_
          refine AtL.add (z := 2) (.inl rfl) rfl rfl rfl (by decide) ?_
          refine AtL.move (.inl rfl) rfl rfl ?_
          refine AtL.done ?_
          refine At.again ?_
          refine At.seq ?_
          refine At.region ?_
          refine AtL.lss (.inl rfl) rfl rfl rfl ?_
          refine AtL.done ?_
          refine At.seq ?_
          refine At.condT rfl ?_
          refine At.skip ?_
          refine At.seq ?_
          refine At.block ?_
          refine At.seq ?_
          refine At.region ?_
          refine AtL.move (.inl rfl) rfl rfl ?_
          refine AtL.assign (.inl rfl) rfl rfl ?_
          refine AtL.done ?_
          refine At.seq ?_
          refine At.region ?_
          refine AtL.move (.inl rfl) rfl rfl ?_
          refine AtL.move (.inl rfl) rfl rfl ?_
          refine AtL.move (.inl rfl) rfl rfl ?_
          refine AtL.add (z := i + 2) (.inl rfl) rfl rfl rfl (w64 (by omega) (by omega)) ?_
          refine AtL.call tf_body207 (.inl rfl) rfl rfl (at_any (l := l) (Rd.skip 1 h) (i + 2)) ?_
          rintro _ _ ⟨c12, e13, rfl, rfl⟩
          refine AtL.move (.inl rfl) rfl rfl ?_
          refine AtL.extract (.inl rfl) rfl rfl rfl ?_
          refine AtL.extract (.inl rfl) rfl rfl rfl ?_
          refine AtL.assign (.inl rfl) rfl rfl ?_
          refine AtL.assign (.inl rfl) rfl rfl ?_
          refine AtL.done ?_
          refine At.seq ?_
          refine At.seq ?_
          refine At.region ?_
          refine AtL.move (.inl rfl) rfl rfl ?_
          refine AtL.nei (.inl rfl) rfl rfl rfl ?_
          refine AtL.done ?_
          refine At.cond rfl ?_ ?_
          · intro hc3
            have hc3 : ¬ ((e13 : Int) = 0) := of_decide_eq_false (bnot_true hc3)
            refine At.seq ?_
            refine At.region ?_
            refine AtL.move (.inl rfl) rfl rfl ?_
            refine AtL.move (.inl rfl) rfl rfl ?_
            refine AtL.lenL Tryz.underlying22 (.inl rfl) rfl rfl ?_
            refine AtL.build (cs := [.int .i64 e13, .int .i64 (l.length : Int)]) tf_lay133 (.inl rfl) rfl rfl rfl ?_
            refine AtL.assign (.inl rfl) rfl rfl ?_
            refine AtL.assign (.inl rfl) rfl rfl ?_
            refine AtL.store (H' := [(b1, .cells #[.int .i64 e13, .int .i64 (l.length : Int)] 133 (0, 0))] :: H) 0 0 tf_sz133 (.inl rfl) rfl rfl rfl rfl rfl rfl rfl rfl rfl ?_
            refine AtL.done ?_
            exact At.retMP (vs := [.int .i64 0, .int .i64 0, .agg #[.int .i64 e13, .int .i64 (l.length : Int)]]) (H2 := H) [] 1 rfl rfl Tryz.func181 rfl ⟨rfl, rfl, ⟨_, rfl, LoadsTo.agg (cs := [.int .i64 e13, .int .i64 (l.length : Int)]) tf_agg133 rfl (cellsOwn 0 0 0 rfl rfl rfl)⟩, trivial⟩ (⟨_, _, _, _, rfl, rfl⟩)
          · intro hc3
            have hc3 : (e13 : Int) = 0 := of_decide_eq_true (bnot_false hc3)
            refine At.skip ?_
            refine At.region ?_
            refine AtL.move (.inl rfl) rfl rfl ?_
            obtain ⟨z14, hz14⟩ : ∃ z : Int, IntKind.i64.wrap (z11 * 2 ^ (min ((8 : Int).toNat) (IntKind.i64).bits)) = z := ⟨_, rfl⟩
            refine AtL.shl (z := z14) (.inl rfl) rfl rfl rfl (by omega) hz14 ?_
            refine AtL.move (.inl rfl) rfl rfl ?_
            have hB15 := u8_le (c12)
            refine AtL.convInt (z := (c12.toNat : Int)) Tryz.underlying5 Tryz.underlying3 (.inl rfl) rfl rfl (u8_i64 _) ?_
            obtain ⟨z16, hz16⟩ : ∃ z : Int, IntKind.i64.wrap ((BitVec.ofInt (IntKind.i64).bits z14 ||| BitVec.ofInt (IntKind.i64).bits (c12.toNat : Int)).toNat : Int) = z := ⟨_, rfl⟩
            refine AtL.bor (z := z16) (.inl rfl) rfl rfl rfl hz16 ?_
            refine AtL.assign (.inl rfl) rfl rfl ?_
            refine AtL.done ?_
            refine At.inBlock ?_
            refine At.region ?_
            refine AtL.add (z := 3) (.inl rfl) rfl rfl rfl (by decide) ?_
            refine AtL.move (.inl rfl) rfl rfl ?_
            refine AtL.done ?_
            refine At.again ?_
            refine At.seq ?_
            refine At.region ?_
            refine AtL.lss (.inl rfl) rfl rfl rfl ?_
            refine AtL.done ?_
            refine At.seq ?_
            refine At.condT rfl ?_
            refine At.skip ?_
            refine At.seq ?_
            refine At.block ?_
            refine At.seq ?_
            refine At.region ?_
            refine AtL.move (.inl rfl) rfl rfl ?_
            refine AtL.assign (.inl rfl) rfl rfl ?_
            refine AtL.done ?_
            refine At.seq ?_
            refine At.region ?_
            refine AtL.move (.inl rfl) rfl rfl ?_
            refine AtL.move (.inl rfl) rfl rfl ?_
            refine AtL.move (.inl rfl) rfl rfl ?_
            refine AtL.add (z := i + 3) (.inl rfl) rfl rfl rfl (w64 (by omega) (by omega)) ?_
            refine AtL.call tf_body207 (.inl rfl) rfl rfl (at_any (l := l) (Rd.skip 1 h) (i + 3)) ?_
            rintro _ _ ⟨c17, e18, rfl, rfl⟩
            refine AtL.move (.inl rfl) rfl rfl ?_
            refine AtL.extract (.inl rfl) rfl rfl rfl ?_
            refine AtL.extract (.inl rfl) rfl rfl rfl ?_
            refine AtL.assign (.inl rfl) rfl rfl ?_
            refine AtL.assign (.inl rfl) rfl rfl ?_
            refine AtL.done ?_
            refine At.seq ?_
            refine At.seq ?_
            refine At.region ?_
            refine AtL.move (.inl rfl) rfl rfl ?_
            refine AtL.nei (.inl rfl) rfl rfl rfl ?_
            refine AtL.done ?_
            refine At.cond rfl ?_ ?_
            · intro hc3
              have hc3 : ¬ ((e18 : Int) = 0) := of_decide_eq_false (bnot_true hc3)
              refine At.seq ?_
              refine At.region ?_
              refine AtL.move (.inl rfl) rfl rfl ?_
              refine AtL.move (.inl rfl) rfl rfl ?_
              refine AtL.lenL Tryz.underlying22 (.inl rfl) rfl rfl ?_
              refine AtL.build (cs := [.int .i64 e18, .int .i64 (l.length : Int)]) tf_lay133 (.inl rfl) rfl rfl rfl ?_
              refine AtL.assign (.inl rfl) rfl rfl ?_
              refine AtL.assign (.inl rfl) rfl rfl ?_
              refine AtL.store (H' := [(b1, .cells #[.int .i64 e18, .int .i64 (l.length : Int)] 133 (0, 0))] :: H) 0 0 tf_sz133 (.inl rfl) rfl rfl rfl rfl rfl rfl rfl rfl rfl ?_
              refine AtL.done ?_
              exact At.retMP (vs := [.int .i64 0, .int .i64 0, .agg #[.int .i64 e18, .int .i64 (l.length : Int)]]) (H2 := H) [] 1 rfl rfl Tryz.func181 rfl ⟨rfl, rfl, ⟨_, rfl, LoadsTo.agg (cs := [.int .i64 e18, .int .i64 (l.length : Int)]) tf_agg133 rfl (cellsOwn 0 0 0 rfl rfl rfl)⟩, trivial⟩ (⟨_, _, _, _, rfl, rfl⟩)
            · intro hc3
              have hc3 : (e18 : Int) = 0 := of_decide_eq_true (bnot_false hc3)
              refine At.skip ?_
              refine At.region ?_
              refine AtL.move (.inl rfl) rfl rfl ?_
              obtain ⟨z19, hz19⟩ : ∃ z : Int, IntKind.i64.wrap (z16 * 2 ^ (min ((8 : Int).toNat) (IntKind.i64).bits)) = z := ⟨_, rfl⟩
              refine AtL.shl (z := z19) (.inl rfl) rfl rfl rfl (by omega) hz19 ?_
              refine AtL.move (.inl rfl) rfl rfl ?_
              have hB20 := u8_le (c17)
              refine AtL.convInt (z := (c17.toNat : Int)) Tryz.underlying5 Tryz.underlying3 (.inl rfl) rfl rfl (u8_i64 _) ?_
              obtain ⟨z21, hz21⟩ : ∃ z : Int, IntKind.i64.wrap ((BitVec.ofInt (IntKind.i64).bits z19 ||| BitVec.ofInt (IntKind.i64).bits (c17.toNat : Int)).toNat : Int) = z := ⟨_, rfl⟩
              refine AtL.bor (z := z21) (.inl rfl) rfl rfl rfl hz21 ?_
              refine AtL.assign (.inl rfl) rfl rfl ?_
              refine AtL.done ?_
              refine At.inBlock ?_
              refine At.region ?_
              refine AtL.add (z := 4) (.inl rfl) rfl rfl rfl (by decide) ?_
              refine AtL.move (.inl rfl) rfl rfl ?_
              refine AtL.done ?_
              refine At.again ?_
              refine At.seq ?_
              refine At.region ?_
              refine AtL.lss (.inl rfl) rfl rfl rfl ?_
              refine AtL.done ?_
              refine At.seq ?_
              refine At.condF rfl ?_
              refine At.exit rfl ?_
              refine At.seq ?_
              refine At.region ?_
              refine AtL.move (.inl rfl) rfl rfl ?_
              refine AtL.move (.inl rfl) rfl rfl ?_
              refine AtL.move (.inl rfl) rfl rfl ?_
              refine AtL.add (z := i + 4) (.inl rfl) rfl rfl rfl (w64 (by omega) (by omega)) ?_
              refine AtL.build (cs := [.int .i64 0, .int .i64 0]) tf_lay133 (.inl rfl) rfl rfl rfl ?_
              refine AtL.assign (.inl rfl) rfl rfl ?_
              refine AtL.assign (.inl rfl) rfl rfl ?_
              refine AtL.store (H' := [(b1, .cells #[.int .i64 0, .int .i64 0] 133 (0, 0))] :: H) 0 0 tf_sz133 (.inl rfl) rfl rfl rfl rfl rfl rfl rfl rfl rfl ?_
              refine AtL.done ?_
              exact At.retMP (vs := [.int .i64 z21, .int .i64 (i + 4), .agg #[.int .i64 0, .int .i64 0]]) (H2 := H) [] 1 rfl rfl Tryz.func181 rfl ⟨rfl, rfl, ⟨_, rfl, LoadsTo.agg (cs := [.int .i64 0, .int .i64 0]) tf_agg133 rfl (cellsOwn 0 0 0 rfl rfl rfl)⟩, trivial⟩ (⟨_, _, _, _, rfl, rfl⟩)
set_option maxHeartbeats 400000 in
theorem get32_any {w0 : World} {base : Nat} {H : List Seg} {A : Option Addr} {C : Nat} {l : List UInt8} (h : Rd tyB w0 base H A C l) (i : Int) (hi : -1000 ≤ i) (hi2 : i ≤ 4611686018427387904) (hl : l.length ≤ 4611686018427387904) :
    SCalls Tryz.prog 138 [.slice A l.length C, .int .i64 i] w0 base (H) (fun v H' => ∃ a b c d : Int, v = .tuple #[int a, int b, .agg #[int c, int d]] ∧ H' = H) := by
  refine SCalls.of_walk (n := 13) Tryz.func138 rfl rfl rfl fun cs => ?_
  refine At.seq ?_
  refine At.region ?_
  refine AtL.assign (.inl rfl) rfl rfl ?_
  refine AtL.assign (.inl rfl) rfl rfl ?_
  refine AtL.alloc tf_zero133 (cs := #[.int .i64 0, .int .i64 0]) rfl (.inl rfl) rfl ?_
  intro b1
  refine AtL.done ?_
  refine At.seq ?_
  refine At.region ?_
  refine AtL.move (.inl rfl) rfl rfl ?_
  refine AtL.move (.inl rfl) rfl rfl ?_
  refine AtL.call tf_body181 (.inl rfl) rfl rfl (get4_any (l := l) (Rd.skip 1 h) i (by omega) (by omega) (by omega)) ?_
  rintro _ _ ⟨n2, k3, e4, f5, rfl, rfl⟩
  refine AtL.extract (.inl rfl) rfl rfl rfl ?_
  refine AtL.extract (.inl rfl) rfl rfl rfl ?_
  refine AtL.extract (.inl rfl) rfl rfl rfl ?_
  refine AtL.assign (.inl rfl) rfl rfl ?_
  refine AtL.assign (.inl rfl) rfl rfl ?_
  refine AtL.store (H' := [(b1, .cells #[.int .i64 e4, .int .i64 f5] 133 (0, 0))] :: H) 0 0 tf_sz133 (.inl rfl) rfl rfl rfl rfl rfl rfl rfl rfl rfl ?_
  refine AtL.done ?_
  exact At.retMP (vs := [.int .i64 n2, .int .i64 k3, .agg #[.int .i64 e4, .int .i64 f5]]) (H2 := H) [] 1 rfl rfl Tryz.func138 rfl ⟨rfl, rfl, ⟨_, rfl, LoadsTo.agg (cs := [.int .i64 e4, .int .i64 f5]) tf_agg133 rfl (cellsOwn 0 0 0 rfl rfl rfl)⟩, trivial⟩ (⟨_, _, _, _, rfl, rfl⟩)
end Go.Proofs.YtlkdmbpbjhjkfaaGreatDoor
namespace Go.Proofs.YtlkdmbpbjhjkfaaGreatDoor
set_option linter.unusedVariables false
set_option linter.unusedSimpArgs false
set_option maxRecDepth 100000
set_option maxHeartbeats 400000 in
theorem parts_ok {w0 : World} {base : Nat} {H : List Seg}  :
    SCalls Tryz.prog 203 [.int .i64 6] w0 base (H) (fun v H' => ∃ b : Nat, v = .tuple #[.slice (some ⟨b, 0, none⟩) 3 3, .bool true] ∧ H' = [(b, .cells #[.int .i64 0, .bool true, .bool false, .int .i64 0, .bool true, .bool false, .int .i64 20, .bool false, .bool false] 241 (0, 0))] :: H) := by
  refine SCalls.of_walk (n := 36) Tryz.func203 rfl rfl rfl fun cs => ?_
  refine At.seq ?_
  refine At.region ?_
  refine AtL.assign (.inl rfl) rfl rfl ?_
  refine AtL.assign (.inl rfl) rfl rfl ?_
  refine AtL.done ?_
  refine At.seq ?_
  refine At.region ?_
  refine AtL.build (cs := [.int .i64 0, .bool true, .bool false]) tf_lay241 (.inl rfl) rfl rfl rfl ?_
  refine AtL.alloc tf_zero241 (cs := #[.int .i64 0, .bool false, .bool false]) rfl (.inl rfl) rfl ?_
  intro b1
  refine AtL.store (H' := [(b1, .cells #[.int .i64 0, .bool true, .bool false] 241 (0, 0))] :: H) 0 0 tf_sz241 (.inl rfl) rfl rfl rfl rfl rfl rfl rfl rfl rfl ?_
  refine AtL.done ?_
  refine At.seq ?_
  refine At.region ?_
  refine AtL.makeMap kyI (fun x : Value => x) (.inl rfl) rfl ?_
  intro b2
  refine AtL.build (cs := [.int .i64 4, .bool false, .bool false]) tf_lay241 (.inl rfl) rfl rfl rfl ?_
  refine AtL.buildSlice (cs := [.int .i64 4, .bool false, .bool false]) Tryz.underlying232 tf_zero241 tf_sz241 rfl rfl (.inl rfl) rfl rfl rfl ?_
  intro b3
  refine AtL.insert (Q := kyI) (tv := (fun x : Value => x)) (a := 1) (v := (.slice (some ⟨b3, 0, none⟩) 1 1)) (H' := [(b3, .cells #[.int .i64 4, .bool false, .bool false] 241 (0, 0))] :: [(b2, mapO kyI (fun x : Value => x) ([(1, (.slice (some ⟨b3, 0, none⟩) 1 1))]))] :: [(b1, .cells #[.int .i64 0, .bool true, .bool false] 241 (0, 0))] :: H) 1 0 Tryz.underlying259 Tryz.underlying3 rfl (.inl rfl) rfl rfl (by first | decide | rfl) rfl rfl rfl rfl ?_
  refine AtL.build (cs := [.int .i64 16, .bool false, .bool false]) tf_lay241 (.inl rfl) rfl rfl rfl ?_
  refine AtL.buildSlice (cs := [.int .i64 16, .bool false, .bool false]) Tryz.underlying232 tf_zero241 tf_sz241 rfl rfl (.inl rfl) rfl rfl rfl ?_
  intro b4
  refine AtL.insert (Q := kyI) (tv := (fun x : Value => x)) (a := 28) (v := (.slice (some ⟨b4, 0, none⟩) 1 1)) (H' := [(b4, .cells #[.int .i64 16, .bool false, .bool false] 241 (0, 0))] :: [(b3, .cells #[.int .i64 4, .bool false, .bool false] 241 (0, 0))] :: [(b2, mapO kyI (fun x : Value => x) ([(1, (.slice (some ⟨b3, 0, none⟩) 1 1)), (28, (.slice (some ⟨b4, 0, none⟩) 1 1))]))] :: [(b1, .cells #[.int .i64 0, .bool true, .bool false] 241 (0, 0))] :: H) 2 0 Tryz.underlying259 Tryz.underlying3 rfl (.inl rfl) rfl rfl (by first | decide | rfl) rfl rfl rfl rfl ?_
  refine AtL.loadN (cs := [.int .i64 0, .bool true, .bool false]) tf_agg241 (.inl rfl) rfl rfl rfl (cellsOwn 3 0 0 rfl rfl rfl) ?_
  refine AtL.buildSlice (cs := [.int .i64 0, .bool true, .bool false]) Tryz.underlying232 tf_zero241 tf_sz241 rfl rfl (.inl rfl) rfl rfl rfl ?_
  intro b5
  refine AtL.insert (Q := kyI) (tv := (fun x : Value => x)) (a := 2) (v := (.slice (some ⟨b5, 0, none⟩) 1 1)) (H' := [(b5, .cells #[.int .i64 0, .bool true, .bool false] 241 (0, 0))] :: [(b4, .cells #[.int .i64 16, .bool false, .bool false] 241 (0, 0))] :: [(b3, .cells #[.int .i64 4, .bool false, .bool false] 241 (0, 0))] :: [(b2, mapO kyI (fun x : Value => x) ([(1, (.slice (some ⟨b3, 0, none⟩) 1 1)), (28, (.slice (some ⟨b4, 0, none⟩) 1 1)), (2, (.slice (some ⟨b5, 0, none⟩) 1 1))]))] :: [(b1, .cells #[.int .i64 0, .bool true, .bool false] 241 (0, 0))] :: H) 3 0 Tryz.underlying259 Tryz.underlying3 rfl (.inl rfl) rfl rfl (by first | decide | rfl) rfl rfl rfl rfl ?_
  refine AtL.loadN (cs := [.int .i64 0, .bool true, .bool false]) tf_agg241 (.inl rfl) rfl rfl rfl (cellsOwn 4 0 0 rfl rfl rfl) ?_
  refine AtL.buildSlice (cs := [.int .i64 0, .bool true, .bool false]) Tryz.underlying232 tf_zero241 tf_sz241 rfl rfl (.inl rfl) rfl rfl rfl ?_
  intro b6
  refine AtL.insert (Q := kyI) (tv := (fun x : Value => x)) (a := 5) (v := (.slice (some ⟨b6, 0, none⟩) 1 1)) (H' := [(b6, .cells #[.int .i64 0, .bool true, .bool false] 241 (0, 0))] :: [(b5, .cells #[.int .i64 0, .bool true, .bool false] 241 (0, 0))] :: [(b4, .cells #[.int .i64 16, .bool false, .bool false] 241 (0, 0))] :: [(b3, .cells #[.int .i64 4, .bool false, .bool false] 241 (0, 0))] :: [(b2, mapO kyI (fun x : Value => x) ([(1, (.slice (some ⟨b3, 0, none⟩) 1 1)), (28, (.slice (some ⟨b4, 0, none⟩) 1 1)), (2, (.slice (some ⟨b5, 0, none⟩) 1 1)), (5, (.slice (some ⟨b6, 0, none⟩) 1 1))]))] :: [(b1, .cells #[.int .i64 0, .bool true, .bool false] 241 (0, 0))] :: H) 4 0 Tryz.underlying259 Tryz.underlying3 rfl (.inl rfl) rfl rfl (by first | decide | rfl) rfl rfl rfl rfl ?_
  refine AtL.loadN (cs := [.int .i64 0, .bool true, .bool false]) tf_agg241 (.inl rfl) rfl rfl rfl (cellsOwn 5 0 0 rfl rfl rfl) ?_
  refine AtL.buildSlice (cs := [.int .i64 0, .bool true, .bool false]) Tryz.underlying232 tf_zero241 tf_sz241 rfl rfl (.inl rfl) rfl rfl rfl ?_
  intro b7
  refine AtL.insert (Q := kyI) (tv := (fun x : Value => x)) (a := 12) (v := (.slice (some ⟨b7, 0, none⟩) 1 1)) (H' := [(b7, .cells #[.int .i64 0, .bool true, .bool false] 241 (0, 0))] :: [(b6, .cells #[.int .i64 0, .bool true, .bool false] 241 (0, 0))] :: [(b5, .cells #[.int .i64 0, .bool true, .bool false] 241 (0, 0))] :: [(b4, .cells #[.int .i64 16, .bool false, .bool false] 241 (0, 0))] :: [(b3, .cells #[.int .i64 4, .bool false, .bool false] 241 (0, 0))] :: [(b2, mapO kyI (fun x : Value => x) ([(1, (.slice (some ⟨b3, 0, none⟩) 1 1)), (28, (.slice (some ⟨b4, 0, none⟩) 1 1)), (2, (.slice (some ⟨b5, 0, none⟩) 1 1)), (5, (.slice (some ⟨b6, 0, none⟩) 1 1)), (12, (.slice (some ⟨b7, 0, none⟩) 1 1))]))] :: [(b1, .cells #[.int .i64 0, .bool true, .bool false] 241 (0, 0))] :: H) 5 0 Tryz.underlying259 Tryz.underlying3 rfl (.inl rfl) rfl rfl (by first | decide | rfl) rfl rfl rfl rfl ?_
  refine AtL.build (cs := [.int .i64 2, .bool false, .bool false]) tf_lay241 (.inl rfl) rfl rfl rfl ?_
  refine AtL.loadN (cs := [.int .i64 0, .bool true, .bool false]) tf_agg241 (.inl rfl) rfl rfl rfl (cellsOwn 6 0 0 rfl rfl rfl) ?_
  refine AtL.buildSlice (cs := [.int .i64 2, .bool false, .bool false, .int .i64 0, .bool true, .bool false]) Tryz.underlying232 tf_zero241 tf_sz241 rfl rfl (.inl rfl) rfl rfl rfl ?_
  intro b8
  refine AtL.insert (Q := kyI) (tv := (fun x : Value => x)) (a := 15) (v := (.slice (some ⟨b8, 0, none⟩) 2 2)) (H' := [(b8, .cells #[.int .i64 2, .bool false, .bool false, .int .i64 0, .bool true, .bool false] 241 (0, 0))] :: [(b7, .cells #[.int .i64 0, .bool true, .bool false] 241 (0, 0))] :: [(b6, .cells #[.int .i64 0, .bool true, .bool false] 241 (0, 0))] :: [(b5, .cells #[.int .i64 0, .bool true, .bool false] 241 (0, 0))] :: [(b4, .cells #[.int .i64 16, .bool false, .bool false] 241 (0, 0))] :: [(b3, .cells #[.int .i64 4, .bool false, .bool false] 241 (0, 0))] :: [(b2, mapO kyI (fun x : Value => x) ([(1, (.slice (some ⟨b3, 0, none⟩) 1 1)), (28, (.slice (some ⟨b4, 0, none⟩) 1 1)), (2, (.slice (some ⟨b5, 0, none⟩) 1 1)), (5, (.slice (some ⟨b6, 0, none⟩) 1 1)), (12, (.slice (some ⟨b7, 0, none⟩) 1 1)), (15, (.slice (some ⟨b8, 0, none⟩) 2 2))]))] :: [(b1, .cells #[.int .i64 0, .bool true, .bool false] 241 (0, 0))] :: H) 6 0 Tryz.underlying259 Tryz.underlying3 rfl (.inl rfl) rfl rfl (by first | decide | rfl) rfl rfl rfl rfl ?_
  refine AtL.loadN (cs := [.int .i64 0, .bool true, .bool false]) tf_agg241 (.inl rfl) rfl rfl rfl (cellsOwn 7 0 0 rfl rfl rfl) ?_
  refine AtL.loadN (cs := [.int .i64 0, .bool true, .bool false]) tf_agg241 (.inl rfl) rfl rfl rfl (cellsOwn 7 0 0 rfl rfl rfl) ?_
  refine AtL.build (cs := [.int .i64 20, .bool false, .bool false]) tf_lay241 (.inl rfl) rfl rfl rfl ?_
  refine AtL.buildSlice (cs := [.int .i64 0, .bool true, .bool false, .int .i64 0, .bool true, .bool false, .int .i64 20, .bool false, .bool false]) Tryz.underlying232 tf_zero241 tf_sz241 rfl rfl (.inl rfl) rfl rfl rfl ?_
  intro b9
  refine AtL.insert (Q := kyI) (tv := (fun x : Value => x)) (a := 6) (v := (.slice (some ⟨b9, 0, none⟩) 3 3)) (H' := [(b9, .cells #[.int .i64 0, .bool true, .bool false, .int .i64 0, .bool true, .bool false, .int .i64 20, .bool false, .bool false] 241 (0, 0))] :: [(b8, .cells #[.int .i64 2, .bool false, .bool false, .int .i64 0, .bool true, .bool false] 241 (0, 0))] :: [(b7, .cells #[.int .i64 0, .bool true, .bool false] 241 (0, 0))] :: [(b6, .cells #[.int .i64 0, .bool true, .bool false] 241 (0, 0))] :: [(b5, .cells #[.int .i64 0, .bool true, .bool false] 241 (0, 0))] :: [(b4, .cells #[.int .i64 16, .bool false, .bool false] 241 (0, 0))] :: [(b3, .cells #[.int .i64 4, .bool false, .bool false] 241 (0, 0))] :: [(b2, mapO kyI (fun x : Value => x) ([(1, (.slice (some ⟨b3, 0, none⟩) 1 1)), (28, (.slice (some ⟨b4, 0, none⟩) 1 1)), (2, (.slice (some ⟨b5, 0, none⟩) 1 1)), (5, (.slice (some ⟨b6, 0, none⟩) 1 1)), (12, (.slice (some ⟨b7, 0, none⟩) 1 1)), (15, (.slice (some ⟨b8, 0, none⟩) 2 2)), (6, (.slice (some ⟨b9, 0, none⟩) 3 3))]))] :: [(b1, .cells #[.int .i64 0, .bool true, .bool false] 241 (0, 0))] :: H) 7 0 Tryz.underlying259 Tryz.underlying3 rfl (.inl rfl) rfl rfl (by first | decide | rfl) rfl rfl rfl rfl ?_
  refine AtL.build (cs := [.int .i64 0, .bool false, .bool true]) tf_lay241 (.inl rfl) rfl rfl rfl ?_
  refine AtL.buildSlice (cs := [.int .i64 0, .bool false, .bool true]) Tryz.underlying232 tf_zero241 tf_sz241 rfl rfl (.inl rfl) rfl rfl rfl ?_
  intro b10
  refine AtL.insert (Q := kyI) (tv := (fun x : Value => x)) (a := 16) (v := (.slice (some ⟨b10, 0, none⟩) 1 1)) (H' := [(b10, .cells #[.int .i64 0, .bool false, .bool true] 241 (0, 0))] :: [(b9, .cells #[.int .i64 0, .bool true, .bool false, .int .i64 0, .bool true, .bool false, .int .i64 20, .bool false, .bool false] 241 (0, 0))] :: [(b8, .cells #[.int .i64 2, .bool false, .bool false, .int .i64 0, .bool true, .bool false] 241 (0, 0))] :: [(b7, .cells #[.int .i64 0, .bool true, .bool false] 241 (0, 0))] :: [(b6, .cells #[.int .i64 0, .bool true, .bool false] 241 (0, 0))] :: [(b5, .cells #[.int .i64 0, .bool true, .bool false] 241 (0, 0))] :: [(b4, .cells #[.int .i64 16, .bool false, .bool false] 241 (0, 0))] :: [(b3, .cells #[.int .i64 4, .bool false, .bool false] 241 (0, 0))] :: [(b2, mapO kyI (fun x : Value => x) ([(1, (.slice (some ⟨b3, 0, none⟩) 1 1)), (28, (.slice (some ⟨b4, 0, none⟩) 1 1)), (2, (.slice (some ⟨b5, 0, none⟩) 1 1)), (5, (.slice (some ⟨b6, 0, none⟩) 1 1)), (12, (.slice (some ⟨b7, 0, none⟩) 1 1)), (15, (.slice (some ⟨b8, 0, none⟩) 2 2)), (6, (.slice (some ⟨b9, 0, none⟩) 3 3)), (16, (.slice (some ⟨b10, 0, none⟩) 1 1))]))] :: [(b1, .cells #[.int .i64 0, .bool true, .bool false] 241 (0, 0))] :: H) 8 0 Tryz.underlying259 Tryz.underlying3 rfl (.inl rfl) rfl rfl (by first | decide | rfl) rfl rfl rfl rfl ?_
  refine AtL.move (.inl rfl) rfl rfl ?_
  refine AtL.move (.inl rfl) rfl rfl ?_
  refine AtL.lookup (Q := kyI) (tv := (fun x : Value => x)) (a := 6) (v := .tuple #[.slice (some ⟨b9, 0, none⟩) 3 3, .bool true]) 8 0 Tryz.underlying259 Tryz.underlying3 rfl tf_zero232 (.inl rfl) rfl rfl rfl rfl rfl rfl ?_
  refine AtL.move (.inl rfl) rfl rfl ?_
  refine AtL.extract (.inl rfl) rfl rfl rfl ?_
  refine AtL.extract (.inl rfl) rfl rfl rfl ?_
  refine AtL.assign (.inl rfl) rfl rfl ?_
  refine AtL.assign (.inl rfl) rfl rfl ?_
  refine AtL.done ?_
  refine At.seq ?_
  refine At.region ?_
  refine AtL.move (.inl rfl) rfl rfl ?_
  refine AtL.move (.inl rfl) rfl rfl ?_
  refine AtL.assign (.inl rfl) rfl rfl ?_
  refine AtL.assign (.inl rfl) rfl rfl ?_
  refine AtL.done ?_
  refine At.pick (H' := [(b9, .cells #[.int .i64 0, .bool true, .bool false, .int .i64 0, .bool true, .bool false, .int .i64 20, .bool false, .bool false] 241 (0, 0))] :: H) [1] 10 rfl rfl ?_
  exact At.ret Tryz.func203 rfl rfl (⟨b9, rfl, rfl⟩)
set_option maxHeartbeats 400000 in
theorem first_ok {w0 : World} {base : Nat} {H : List Seg} (s : List UInt8) (hs : s.length ≤ 140737488355328) :
    PCalls Tryz.prog 206 [str s] w0 base (H) (fun v H' => ∃ l : List UInt8, l.length ≤ s.length ∧ v = str l ∧ H' = H) (fun ch H' => ch = [{ v := .iface 238 (.agg #[]), recovered := false }] ∧ H' = H) := by
  refine PCalls.of_walk (n := 34) Tryz.func206 rfl rfl rfl fun cs => ?_
  refine At.seq ?_
  refine At.region ?_
  refine AtL.assign (.inl rfl) rfl rfl ?_
  refine AtL.done ?_
  refine At.seq ?_
  refine At.seq ?_
  refine At.region ?_
  refine AtL.assign (.inl rfl) rfl rfl ?_
  refine AtL.done ?_
  refine At.block ?_
  refine At.loop (fun (i : Nat) => [(0, str s), (2, str []), (3, .int .i64 (i : Int))]) (fun (i : Nat) => H) (fun (i : Nat) => i ≤ 600) (fun (i : Nat) => 600 - i) 0 (by omega) ⟨rfl, rfl, rfl, trivial⟩ rfl ?_
  rintro i hi ihL1
  have hbi := (s.getD i 0).toNat_lt
  refine At.seq ?_
  refine At.seq ?_
  refine At.region ?_
  refine AtL.move (.inl rfl) rfl rfl ?_
  refine AtL.move (.inl rfl) rfl rfl ?_
  refine AtL.lenS (l := s) Tryz.underlying9 (.inl rfl) rfl rfl ?_
  refine AtL.lss (.inl rfl) rfl rfl rfl ?_
  refine AtL.move (.inl rfl) rfl rfl ?_
  refine AtL.join 3 (E' := [(12, .bool (decide (((i : Int) < (s.length : Int)) ∧ ((i : Int) < 255)))), (0, str s), (2, str []), (3, .int .i64 (i : Int))]) (H' := H) (fun J => ?_) ?_
  · refine AtL.split (t := 9) rfl ?_ ?_
    · intro hs9
      have hs9 : (i : Int) < (s.length : Int) := of_decide_eq_true hs9
      refine AtL.move (.inr ⟨_, _, _, rfl, rfl, rfl, rfl⟩) rfl rfl ?_
      refine AtL.lss (.inr ⟨_, _, _, rfl, rfl, rfl, rfl⟩) rfl rfl rfl ?_
      refine AtL.pickT (.inl rfl) rfl rfl rfl ?_
      exact J _ (by exact ⟨(boolIs (by clear J; first | (simp [hs9]; done) | (simp_all; done) | grind)), rfl, rfl, rfl, trivial⟩)
    · intro hs9
      have hs9 : ¬ ((i : Int) < (s.length : Int)) := of_decide_eq_false hs9
      refine AtL.skipped rfl rfl rfl rfl rfl rfl ?_
      refine AtL.skipped rfl rfl rfl rfl rfl rfl ?_
      refine AtL.pickF (.inl rfl) rfl rfl rfl ?_
      exact J _ (by exact ⟨(boolIs (by clear J; first | (simp [hs9]; done) | (simp_all; done) | grind)), rfl, rfl, rfl, trivial⟩)
  · skip
    refine AtL.done ?_
    refine At.cond rfl ?_ ?_
    · intro hc1
      have hc1 : ((i : Int) < (s.length : Int)) ∧ ((i : Int) < 255) := of_decide_eq_true hc1
      refine At.skip ?_
      refine At.seq ?_
      refine At.block ?_
      refine At.seq ?_
      refine At.region ?_
      refine AtL.move (.inl rfl) rfl rfl ?_
      refine AtL.move (.inl rfl) rfl rfl ?_
      refine AtL.indexS (l := s) i rfl (by omega) Tryz.underlying9 (.inl rfl) rfl rfl rfl ?_
      refine AtL.eqi (.inl rfl) rfl rfl rfl ?_
      refine AtL.done ?_
      refine At.cond rfl ?_ ?_
      · intro hc2
        have hc2 : ((s.getD i 0).toNat : Int) = 0 := of_decide_eq_true hc2
        refine At.seq ?_
        refine At.seq ?_
        refine At.region ?_
        refine AtL.move (.inl rfl) rfl rfl ?_
        refine AtL.move (.inl rfl) rfl rfl ?_
        refine AtL.add (z := (i : Int) + 1) (.inl rfl) rfl rfl rfl (w64 (by omega) (by omega)) ?_
        refine AtL.sliceS (l := s) 0 (i + 1) rfl (evBound_some rfl rfl) (by omega) (by omega) Tryz.underlying9 (.inl rfl) rfl rfl ?_
        refine AtL.assign (.inl rfl) rfl rfl ?_
        refine AtL.done ?_
        refine At.seq ?_
        refine At.region ?_
        refine AtL.move (.inl rfl) rfl rfl ?_
        refine AtL.call tf_body221 (.inl rfl) rfl rfl (ncheck_ok (subl s 0 (i + 1)) (by rw [subl_len (by omega)]; omega)) ?_
        rintro _ _ ⟨e1, rfl, hHq⟩
        obtain rfl := hHq.symm
        refine AtL.eqi (.inl rfl) rfl rfl rfl ?_
        refine AtL.done ?_
        refine At.cond rfl ?_ ?_
        · intro hc3
          have hc3 : (e1 : Int) = 0 := of_decide_eq_true hc3
          refine At.seq ?_
          refine At.region ?_
          refine AtL.move (.inl rfl) rfl rfl ?_
          refine AtL.assign (.inl rfl) rfl rfl ?_
          refine AtL.done ?_
          refine At.toQ ?_
          exact At.ret Tryz.func206 rfl rfl (⟨subl s 0 (i + 1), by rw [subl_len (by omega)]; omega, rfl, rfl⟩)
        · intro hc3
          have hc3 : ¬ ((e1 : Int) = 0) := of_decide_eq_false hc3
          refine At.skip ?_
          refine At.exit rfl ?_
          refine At.region ?_
          refine AtL.build (cs := []) tf_lay238 (.inl rfl) rfl rfl rfl ?_
          refine AtL.makeIface Tryz.underlying238 rfl (.inl rfl) rfl rfl ?_
          refine AtL.panicV (.inl rfl) rfl ?_
          exact Un.panicQ Tryz.func206 (⟨rfl, rfl⟩)
      · intro hc2
        have hc2 : ¬ (((s.getD i 0).toNat : Int) = 0) := of_decide_eq_false hc2
        refine At.skip ?_
        refine At.inBlock ?_
        refine At.region ?_
        refine AtL.move (.inl rfl) rfl rfl ?_
        refine AtL.move (.inl rfl) rfl rfl ?_
        refine AtL.move (.inl rfl) rfl rfl ?_
        refine AtL.indexS (l := s) i rfl (by omega) Tryz.underlying9 (.inl rfl) rfl rfl rfl ?_
        have hB2 := u8_le (s.getD i 0)
        refine AtL.convInt (z := ((s.getD i 0).toNat : Int)) Tryz.underlying5 Tryz.underlying3 (.inl rfl) rfl rfl (u8_i64 _) ?_
        refine AtL.add (z := 1 + ((s.getD i 0).toNat : Int)) (.inl rfl) rfl rfl rfl (w64 (by omega) (by omega)) ?_
        refine AtL.add (z := (i : Int) + (1 + ((s.getD i 0).toNat : Int))) (.inl rfl) rfl rfl rfl (w64 (by omega) (by omega)) ?_
        refine AtL.assign (.inl rfl) rfl rfl ?_
        refine AtL.done ?_
        refine ihL1 (i + (1 + ((s.getD i 0).toNat))) (by omega) (by omega) _ ?_
        exact ⟨rfl, (by first | rfl | exact slLen (by simp []) | exact intEq (by omega) | exact intEq (by simp []) | exact slLen (by simp []; omega)), (by first | rfl | exact slLen (by simp []) | exact intEq (by omega) | exact intEq (by simp []) | exact slLen (by simp []; omega)), trivial⟩
    · intro hc1
      have hc1 : ¬ (((i : Int) < (s.length : Int)) ∧ ((i : Int) < 255)) := of_decide_eq_false hc1
      refine At.exit rfl ?_
      refine At.region ?_
      refine AtL.build (cs := []) tf_lay238 (.inl rfl) rfl rfl rfl ?_
      refine AtL.makeIface Tryz.underlying238 rfl (.inl rfl) rfl rfl ?_
      refine AtL.panicV (.inl rfl) rfl ?_
      exact Un.panicQ Tryz.func206 (⟨rfl, rfl⟩)
set_option maxHeartbeats 400000 in
theorem split1_ret {w0 : World} {base : Nat} {H : List Seg} {b c : Nat} {x y : Value} :
    DCalls Tryz.prog 204 [.pointer (some ⟨b, 0, none⟩), .pointer (some ⟨c, 0, none⟩)] w0 base ([(b, .cells #[x] 213 (0, 0))] :: [(c, .cells #[y] 4 (0, 0))] :: H) .returning (fun m' H' => m' = .returning ∧ H' = [(b, .cells #[x] 213 (0, 0))] :: [(c, .cells #[y] 4 (0, 0))] :: H) := by
  refine DCalls.of_walk (n := 15) Tryz.func204 rfl rfl rfl fun fr cs => ?_
  refine At.seq ?_
  refine At.region ?_
  refine AtL.recoverNone rfl ?_
  refine AtL.assign (.inl rfl) rfl rfl ?_
  refine AtL.done ?_
  refine At.seq ?_
  refine At.seq ?_
  refine At.region ?_
  refine AtL.move (.inl rfl) rfl rfl ?_
  refine AtL.typeAssert (u := .tuple #[.agg #[], .bool false]) (.inl rfl) rfl rfl (fun w => by kernel_rfl) ?_
  refine AtL.move (.inl rfl) rfl rfl ?_
  refine AtL.extract (.inl rfl) rfl rfl rfl ?_
  refine AtL.extract (.inl rfl) rfl rfl rfl ?_
  refine AtL.alloc tf_zero238 (cs := #[]) rfl (.inl rfl) rfl ?_
  intro b1
  refine AtL.store (H' := [(b1, .cells #[] 238 (0, 0))] :: [(b, .cells #[x] 213 (0, 0))] :: [(c, .cells #[y] 4 (0, 0))] :: H) 0 0 tf_sz238 (.inl rfl) rfl rfl rfl rfl rfl rfl rfl rfl rfl ?_
  refine AtL.assign (.inl rfl) rfl rfl ?_
  refine AtL.done ?_
  refine At.seq ?_
  refine At.region ?_
  refine AtL.move (.inl rfl) rfl rfl ?_
  refine AtL.done ?_
  refine At.condF rfl ?_
  refine At.skip ?_
  refine At.seq ?_
  refine At.region ?_
  refine AtL.move (.inl rfl) rfl rfl ?_
  refine AtL.neNilIface Tryz.underlying20 (.inl rfl) rfl rfl ?_
  refine AtL.done ?_
  refine At.condF rfl ?_
  refine At.skip ?_
  refine At.endU rfl ?_
  refine Un.pick (H' := [(b, .cells #[x] 213 (0, 0))] :: [(c, .cells #[y] 4 (0, 0))] :: H) [1, 2] 3 rfl rfl ?_
  exact Un.leftD (vs := []) Tryz.func204 rfl trivial (⟨rfl, rfl⟩)
set_option maxHeartbeats 400000 in
theorem split1_bad {w0 : World} {base : Nat} {H : List Seg} {b c : Nat} {x y : Value} :
    DCalls Tryz.prog 204 [.pointer (some ⟨b, 0, none⟩), .pointer (some ⟨c, 0, none⟩)] w0 base ([(b, .cells #[x] 213 (0, 0))] :: [(c, .cells #[y] 4 (0, 0))] :: H) (.panicking [{ v := .iface 238 (.agg #[]), recovered := false }]) (fun m' H' => m' = .returning ∧ H' = [(b, .cells #[.slice none 0 0] 213 (0, 0))] :: [(c, .cells #[.bool false] 4 (0, 0))] :: H) := by
  refine DCalls.of_walk (n := 15) Tryz.func204 rfl rfl rfl fun fr cs => ?_
  refine At.seq ?_
  refine At.region ?_
  refine AtL.recoverSome rfl ?_
  refine AtL.assign (.inl rfl) rfl rfl ?_
  refine AtL.done ?_
  refine At.seq ?_
  refine At.seq ?_
  refine At.region ?_
  refine AtL.move (.inl rfl) rfl rfl ?_
  refine AtL.typeAssert (u := .tuple #[.agg #[], .bool true]) (.inl rfl) rfl rfl (fun w => by kernel_rfl) ?_
  refine AtL.move (.inl rfl) rfl rfl ?_
  refine AtL.extract (.inl rfl) rfl rfl rfl ?_
  refine AtL.extract (.inl rfl) rfl rfl rfl ?_
  refine AtL.alloc tf_zero238 (cs := #[]) rfl (.inl rfl) rfl ?_
  intro b1
  refine AtL.store (H' := [(b1, .cells #[] 238 (0, 0))] :: [(b, .cells #[x] 213 (0, 0))] :: [(c, .cells #[y] 4 (0, 0))] :: H) 0 0 tf_sz238 (.inl rfl) rfl rfl rfl rfl rfl rfl rfl rfl rfl ?_
  refine AtL.assign (.inl rfl) rfl rfl ?_
  refine AtL.done ?_
  refine At.seq ?_
  refine At.region ?_
  refine AtL.move (.inl rfl) rfl rfl ?_
  refine AtL.done ?_
  refine At.condT rfl ?_
  refine At.seq ?_
  refine At.region ?_
  refine AtL.store (H' := [(b1, .cells #[] 238 (0, 0))] :: [(b, .cells #[.slice none 0 0] 213 (0, 0))] :: [(c, .cells #[y] 4 (0, 0))] :: H) 1 0 tf_sz213 (.inl rfl) rfl rfl rfl rfl rfl rfl rfl rfl rfl ?_
  refine AtL.store (H' := [(b1, .cells #[] 238 (0, 0))] :: [(b, .cells #[.slice none 0 0] 213 (0, 0))] :: [(c, .cells #[.bool false] 4 (0, 0))] :: H) 2 0 tf_sz4 (.inl rfl) rfl rfl rfl rfl rfl rfl rfl rfl rfl ?_
  refine AtL.done ?_
  refine At.retU rfl ?_
  refine Un.pick (H' := [(b, .cells #[.slice none 0 0] 213 (0, 0))] :: [(c, .cells #[.bool false] 4 (0, 0))] :: H) [1, 2] 3 rfl rfl ?_
  exact Un.leftD (vs := []) Tryz.func204 rfl trivial (⟨rfl, rfl⟩)
set_option maxHeartbeats 400000 in
theorem split_ok6 {w0 : World} {base : Nat} {H : List Seg} (s : List UInt8) (hs : s.length ≤ 140737488355328) :
    SCalls Tryz.prog 180 [.int .i64 6, str s] w0 base (H) (fun v H' => ∃ (v0 : Value) (b : Bool), v = .tuple #[v0, .bool b] ∧ H' = H) := by
  refine SCalls.of_walk (n := 72) Tryz.func180 rfl rfl rfl fun cs => ?_
  refine At.seq ?_
  refine At.region ?_
  refine AtL.alloc tf_zero213 (cs := #[.slice none 0 0]) rfl (.inl rfl) rfl ?_
  intro b1
  refine AtL.alloc tf_zero4 (cs := #[.bool false]) rfl (.inl rfl) rfl ?_
  intro b2
  refine AtL.done ?_
  refine At.seq ?_
  refine At.region ?_
  refine AtL.move (.inl rfl) rfl rfl ?_
  refine AtL.call tf_body203 (.inl rfl) rfl rfl parts_ok ?_
  rintro _ _ ⟨b3, rfl, rfl⟩
  refine AtL.move (.inl rfl) rfl rfl ?_
  refine AtL.extract (.inl rfl) rfl rfl rfl ?_
  refine AtL.extract (.inl rfl) rfl rfl rfl ?_
  refine AtL.assign (.inl rfl) rfl rfl ?_
  refine AtL.assign (.inl rfl) rfl rfl ?_
  refine AtL.done ?_
  refine At.seq ?_
  refine At.seq ?_
  refine At.region ?_
  refine AtL.move (.inl rfl) rfl rfl ?_
  refine AtL.not (.inl rfl) rfl rfl ?_
  refine AtL.done ?_
  refine At.condF rfl ?_
  refine At.skip ?_
  refine At.seq ?_
  refine At.region ?_
  refine AtL.makeFunc (.inl rfl) rfl rfl rfl ?_
  refine AtL.defer rfl (.inl rfl) rfl rfl rfl ?_
  refine AtL.done ?_
  refine At.seq ?_
  refine At.seq ?_
  refine At.region ?_
  refine AtL.move (.inl rfl) rfl rfl ?_
  refine AtL.lenL Tryz.underlying232 (.inl rfl) rfl rfl ?_
  refine AtL.move (.inl rfl) rfl rfl ?_
  refine AtL.done ?_
  refine At.block ?_
  refine At.unroll ?_
  refine At.seq ?_
  refine At.region ?_
  refine AtL.lss (.inl rfl) rfl rfl rfl ?_
  refine AtL.done ?_
  refine At.seq ?_
  refine At.condT rfl ?_
  refine At.skip ?_
  refine At.seq ?_
  refine At.block ?_
  refine At.seq ?_
  refine At.region ?_
  refine AtL.indexB 0 Tryz.underlying232 tf_sz241 (.inl rfl) rfl rfl rfl rfl rfl rfl ?_
  refine AtL.loadN (cs := [.int .i64 0, .bool true, .bool false]) tf_agg241 (.inl rfl) rfl rfl rfl (cellsOwn 0 0 0 rfl rfl rfl) ?_
  refine AtL.alloc tf_zero241 (cs := #[.int .i64 0, .bool false, .bool false]) rfl (.inl rfl) rfl ?_
  intro b4
  refine AtL.store (H' := [(b4, .cells #[.int .i64 0, .bool true, .bool false] 241 (0, 0))] :: [(b3, .cells #[.int .i64 0, .bool true, .bool false, .int .i64 0, .bool true, .bool false, .int .i64 20, .bool false, .bool false] 241 (0, 0))] :: [(b2, .cells #[.bool false] 4 (0, 0))] :: [(b1, .cells #[.slice none 0 0] 213 (0, 0))] :: H) 0 0 tf_sz241 (.inl rfl) rfl rfl rfl rfl rfl rfl rfl rfl rfl ?_
  refine AtL.done ?_
  refine At.seq ?_
  refine At.region ?_
  refine AtL.fieldAddrB tf_fo241_0 (.inl rfl) rfl rfl rfl ?_
  refine AtL.load tf_flat3 (.inl rfl) rfl rfl (Cell.own 0 0 rfl rfl rfl) ?_
  refine AtL.assign (.inl rfl) rfl rfl ?_
  refine AtL.done ?_
  refine At.seq ?_
  refine At.block ?_
  refine At.seq ?_
  refine At.region ?_
  refine AtL.fieldAddrB tf_fo241_2 (.inl rfl) rfl rfl rfl ?_
  refine AtL.load tf_flat4 (.inl rfl) rfl rfl (Cell.own 0 0 rfl rfl rfl) ?_
  refine AtL.move (.inl rfl) rfl rfl ?_
  refine AtL.skipped rfl rfl rfl rfl rfl rfl ?_
  refine AtL.skipped rfl rfl rfl rfl rfl rfl ?_
  refine AtL.pickF (.inl rfl) rfl rfl rfl ?_
  refine AtL.assign (.inl rfl) rfl rfl ?_
  refine AtL.done ?_
  refine At.condF rfl ?_
  refine At.seq ?_
  refine At.region ?_
  refine AtL.fieldAddrB tf_fo241_1 (.inl rfl) rfl rfl rfl ?_
  refine AtL.load tf_flat4 (.inl rfl) rfl rfl (Cell.own 0 0 rfl rfl rfl) ?_
  refine AtL.assign (.inl rfl) rfl rfl ?_
  refine AtL.done ?_
  refine At.condT rfl ?_
  refine At.region ?_
  refine AtL.move (.inl rfl) rfl rfl ?_
  refine AtL.callQ tf_body206 (.inl rfl) rfl rfl (first_ok s (by first | omega | (rw [subl_len (by omega)]; omega))) ?_ ?_
  · skip
    rintro _ _ ⟨rfl, rfl⟩
    refine Un.pick (H' := [(b1, .cells #[.slice none 0 0] 213 (0, 0))] :: [(b2, .cells #[.bool false] 4 (0, 0))] :: [(b4, .cells #[.int .i64 0, .bool true, .bool false] 241 (0, 0))] :: [(b3, .cells #[.int .i64 0, .bool true, .bool false, .int .i64 0, .bool true, .bool false, .int .i64 20, .bool false, .bool false] 241 (0, 0))] :: H) [3, 2, 0, 1] 4 rfl rfl ?_
    refine Un.defer tf_body204 rfl rfl split1_bad ?_
    rintro _ _ ⟨rfl, rfl⟩
    exact Un.leftP (vs := [.slice none 0 0, .bool false]) (H2 := H) [] 4 rfl rfl Tryz.func180 rfl ⟨⟨_, rfl, LoadsTo.flat tf_flat213 (Cell.own 0 0 rfl rfl rfl)⟩, ⟨_, rfl, LoadsTo.flat tf_flat4 (Cell.own 1 0 rfl rfl rfl)⟩, trivial⟩ (⟨_, _, rfl, rfl⟩)
  rintro _ _ ⟨l5, hl6, rfl, rfl⟩
  refine AtL.lenS (l := l5) Tryz.underlying9 (.inl rfl) rfl rfl ?_
  refine AtL.assign (.inl rfl) rfl rfl ?_
  refine AtL.done ?_
  refine At.inBlock ?_
  refine At.seq ?_
  refine At.nil ?_
  refine At.draw (es := [7, 8, 9]) (pv := [(0, .slice none 0 0), (1, str s), (2, .int .i64 (l5.length : Int)), (3, str (subl s 0 l5.length)), (4, .pointer (some ⟨b4, 1, none⟩)), (5, .bool true), (6, .agg #[str (subl s 0 l5.length), .bool true])]) tf_mixed (by kernel_rfl) (by kernel_rfl) (by kernel_rfl) ?_
  refine ⟨⟨.inr ⟨_, rfl, rfl, .inl ⟨rfl, Do.load tf_flat213 rfl (Cell.own 4 0 rfl rfl rfl)⟩⟩, .inr ⟨_, rfl, rfl, .inl ⟨rfl, Do.move rfl⟩⟩, .inr ⟨_, rfl, rfl, .inl ⟨rfl, Do.move rfl⟩⟩, .inr ⟨_, rfl, rfl, .inl ⟨rfl, Do.sliceS (l := s) 0 l5.length rfl (evBound_some rfl rfl) (by omega) (by omega) Tryz.underlying9 rfl⟩⟩, .inr ⟨_, rfl, rfl, .inl ⟨rfl, Do.fieldAddrB tf_fo241_1 rfl rfl⟩⟩, .inr ⟨_, rfl, rfl, .inl ⟨rfl, Do.load tf_flat4 rfl (Cell.own 1 0 rfl rfl rfl)⟩⟩, .inr ⟨_, rfl, rfl, .inl ⟨rfl, Do.build (cs := [str (subl s 0 l5.length), .bool true]) tf_lay236 rfl rfl⟩⟩, trivial⟩, rfl, rfl, by kernel_rfl, _, rfl, rfl, rfl, _, Do.own1 tyPiece (l := ([(subl s 0 l5.length, true)] : List (List UInt8 × Bool))) (Do.buildSlice (cs := [str (subl s 0 l5.length), .bool true]) Tryz.underlying213 tf_zero236 tf_sz236 rfl rfl rfl rfl) rfl rfl (by first | decide | simp), ?_⟩
  rintro _ _ ⟨b7, s8, o9, rfl, rfl⟩
  refine ⟨[], rfl, ?_⟩
  refine ⟨⟨.inr ⟨_, rfl, rfl, .inl ⟨rfl, Do.load tf_flat213 rfl (Cell.own 5 0 rfl rfl rfl)⟩⟩, .inl (by kernel_rfl), .inl (by kernel_rfl), .inl (by kernel_rfl), .inl (by kernel_rfl), .inl (by kernel_rfl), .inl (by kernel_rfl), trivial⟩, rfl, rfl, by kernel_rfl, _, rfl, rfl, rfl, _, Do.append (l := []) (news := [(subl s 0 l5.length, true)]) 1 tf_el213 rfl (Own.nil tyPiece 236) (o9.rd (i := 0) rfl) (by first | omega | (simp only [List.length_append, List.length_cons, List.length_nil]; omega) | (simp; done) | (simp; omega)) rfl rfl, ?_⟩
  rintro _ _ ⟨A10, C11, s12, o13, rfl, rfl⟩
  refine ⟨[], rfl, ?_⟩
  refine ⟨⟨.inl (by kernel_rfl), .inl (by kernel_rfl), .inl (by kernel_rfl), .inl (by kernel_rfl), .inl (by kernel_rfl), .inl (by kernel_rfl), .inl (by kernel_rfl), trivial⟩, rfl, rfl, by kernel_rfl, _, rfl, rfl, rfl, _, Do.store (H' := s8 :: s12 :: [(b4, .cells #[.int .i64 0, .bool true, .bool false] 241 (0, 0))] :: [(b3, .cells #[.int .i64 0, .bool true, .bool false, .int .i64 0, .bool true, .bool false, .int .i64 20, .bool false, .bool false] 241 (0, 0))] :: [(b2, .cells #[.bool false] 4 (0, 0))] :: [(b1, .cells #[.slice A10 ([] ++ [(subl s 0 l5.length, true)]).length C11] 213 (0, 0))] :: H) 5 0 tf_sz213 rfl rfl rfl rfl rfl rfl rfl rfl rfl, ?_⟩
  rintro _ _ ⟨rfl, rfl⟩
  refine ⟨[], rfl, ?_⟩
  refine ⟨⟨.inl (by kernel_rfl), .inl (by kernel_rfl), .inl (by kernel_rfl), .inl (by kernel_rfl), .inl (by kernel_rfl), .inl (by kernel_rfl), .inl (by kernel_rfl), trivial⟩, by kernel_rfl, ?_⟩
  refine At.mono (E' := [(1, str s), (4, .pointer (some ⟨b1, 0, none⟩)), (5, .pointer (some ⟨b2, 0, none⟩)), (10, .int .i64 (l5.length : Int)), (22, .slice (some ⟨b3, 0, none⟩) 3 3), (23, .int .i64 3), (24, .int .i64 0)]) ⟨rfl, rfl, rfl, rfl, rfl, rfl, rfl, trivial⟩ ?_
  refine At.region ?_
  refine AtL.move (.inl rfl) rfl rfl ?_
  refine AtL.move (.inl rfl) rfl rfl ?_
  refine AtL.sliceS (l := s) l5.length s.length (evBound_some rfl rfl) rfl (by omega) (by omega) Tryz.underlying9 (.inl rfl) rfl rfl ?_
  refine AtL.assign (.inl rfl) rfl rfl ?_
  refine AtL.done ?_
  refine At.inBlock ?_
  refine At.region ?_
  refine AtL.add (z := 1) (.inl rfl) rfl rfl rfl (by decide) ?_
  refine AtL.move (.inl rfl) rfl rfl ?_
  refine AtL.done ?_
  refine At.again ?_
  refine At.seq ?_
  refine At.region ?_
  refine AtL.lss (.inl rfl) rfl rfl rfl ?_
  refine AtL.done ?_
  refine At.seq ?_
  refine At.condT rfl ?_
  refine At.skip ?_
  refine At.seq ?_
  refine At.block ?_
  refine At.seq ?_
  refine At.region ?_
  refine AtL.indexB 1 Tryz.underlying232 tf_sz241 (.inl rfl) rfl rfl rfl rfl rfl rfl ?_
  refine AtL.loadN (cs := [.int .i64 0, .bool true, .bool false]) tf_agg241 (.inl rfl) rfl rfl rfl (cellsOwn 3 0 3 rfl rfl rfl) ?_
  refine AtL.alloc tf_zero241 (cs := #[.int .i64 0, .bool false, .bool false]) rfl (.inl rfl) rfl ?_
  intro b21
  refine AtL.store (H' := [(b21, .cells #[.int .i64 0, .bool true, .bool false] 241 (0, 0))] :: s8 :: s12 :: [(b4, .cells #[.int .i64 0, .bool true, .bool false] 241 (0, 0))] :: [(b3, .cells #[.int .i64 0, .bool true, .bool false, .int .i64 0, .bool true, .bool false, .int .i64 20, .bool false, .bool false] 241 (0, 0))] :: [(b2, .cells #[.bool false] 4 (0, 0))] :: [(b1, .cells #[.slice A10 ([] ++ [(subl s 0 l5.length, true)]).length C11] 213 (0, 0))] :: H) 0 0 tf_sz241 (.inl rfl) rfl rfl rfl rfl rfl rfl rfl rfl rfl ?_
  refine AtL.done ?_
  refine At.seq ?_
  refine At.region ?_
  refine AtL.fieldAddrB tf_fo241_0 (.inl rfl) rfl rfl rfl ?_
  refine AtL.load tf_flat3 (.inl rfl) rfl rfl (Cell.own 0 0 rfl rfl rfl) ?_
  refine AtL.assign (.inl rfl) rfl rfl ?_
  refine AtL.done ?_
  refine At.seq ?_
  refine At.block ?_
  refine At.seq ?_
  refine At.region ?_
  refine AtL.fieldAddrB tf_fo241_2 (.inl rfl) rfl rfl rfl ?_
  refine AtL.load tf_flat4 (.inl rfl) rfl rfl (Cell.own 0 0 rfl rfl rfl) ?_
  refine AtL.move (.inl rfl) rfl rfl ?_
  refine AtL.skipped rfl rfl rfl rfl rfl rfl ?_
  refine AtL.skipped rfl rfl rfl rfl rfl rfl ?_
  refine AtL.pickF (.inl rfl) rfl rfl rfl ?_
  refine AtL.assign (.inl rfl) rfl rfl ?_
  refine AtL.done ?_
  refine At.condF rfl ?_
  refine At.seq ?_
  refine At.region ?_
  refine AtL.fieldAddrB tf_fo241_1 (.inl rfl) rfl rfl rfl ?_
  refine AtL.load tf_flat4 (.inl rfl) rfl rfl (Cell.own 0 0 rfl rfl rfl) ?_
  refine AtL.assign (.inl rfl) rfl rfl ?_
  refine AtL.done ?_
  refine At.condT rfl ?_
  refine At.region ?_
  refine AtL.move (.inl rfl) rfl rfl ?_
  refine AtL.callQ tf_body206 (.inl rfl) rfl rfl (first_ok (subl s l5.length s.length) (by first | omega | (rw [subl_len (by omega)]; omega))) ?_ ?_
  · skip
    rintro _ _ ⟨rfl, rfl⟩
    refine Un.pick (H' := [(b1, .cells #[.slice A10 ([] ++ [(subl s 0 l5.length, true)]).length C11] 213 (0, 0))] :: [(b2, .cells #[.bool false] 4 (0, 0))] :: [(b21, .cells #[.int .i64 0, .bool true, .bool false] 241 (0, 0))] :: s8 :: s12 :: [(b4, .cells #[.int .i64 0, .bool true, .bool false] 241 (0, 0))] :: [(b3, .cells #[.int .i64 0, .bool true, .bool false, .int .i64 0, .bool true, .bool false, .int .i64 20, .bool false, .bool false] 241 (0, 0))] :: H) [6, 5, 0, 1, 2, 3, 4] 7 rfl rfl ?_
    refine Un.defer tf_body204 rfl rfl split1_bad ?_
    rintro _ _ ⟨rfl, rfl⟩
    exact Un.leftP (vs := [.slice none 0 0, .bool false]) (H2 := H) [] 7 rfl rfl Tryz.func180 rfl ⟨⟨_, rfl, LoadsTo.flat tf_flat213 (Cell.own 0 0 rfl rfl rfl)⟩, ⟨_, rfl, LoadsTo.flat tf_flat4 (Cell.own 1 0 rfl rfl rfl)⟩, trivial⟩ (⟨_, _, rfl, rfl⟩)
  rintro _ _ ⟨l22, hl23, rfl, rfl⟩
  refine AtL.lenS (l := l22) Tryz.underlying9 (.inl rfl) rfl rfl ?_
  refine AtL.assign (.inl rfl) rfl rfl ?_
  refine AtL.done ?_
  refine At.inBlock ?_
  refine At.seq ?_
  refine At.draw (es := [7, 8, 9]) (pv := [(0, .slice A10 ([] ++ [(subl s 0 l5.length, true)]).length C11), (1, str (subl s l5.length s.length)), (2, .int .i64 (l22.length : Int)), (3, str (subl (subl s l5.length s.length) 0 l22.length)), (4, .pointer (some ⟨b21, 1, none⟩)), (5, .bool true), (6, .agg #[str (subl (subl s l5.length s.length) 0 l22.length), .bool true])]) tf_mixed (by kernel_rfl) (by kernel_rfl) (by kernel_rfl) ?_
  refine ⟨⟨.inr ⟨_, rfl, rfl, .inl ⟨rfl, Do.load tf_flat213 rfl (Cell.own 6 0 rfl rfl rfl)⟩⟩, .inr ⟨_, rfl, rfl, .inl ⟨rfl, Do.move rfl⟩⟩, .inr ⟨_, rfl, rfl, .inl ⟨rfl, Do.move rfl⟩⟩, .inr ⟨_, rfl, rfl, .inl ⟨rfl, Do.sliceS (l := subl s l5.length s.length) 0 l22.length rfl (evBound_some rfl rfl) (by omega) (by omega) Tryz.underlying9 rfl⟩⟩, .inr ⟨_, rfl, rfl, .inl ⟨rfl, Do.fieldAddrB tf_fo241_1 rfl rfl⟩⟩, .inr ⟨_, rfl, rfl, .inl ⟨rfl, Do.load tf_flat4 rfl (Cell.own 0 0 rfl rfl rfl)⟩⟩, .inr ⟨_, rfl, rfl, .inl ⟨rfl, Do.build (cs := [str (subl (subl s l5.length s.length) 0 l22.length), .bool true]) tf_lay236 rfl rfl⟩⟩, trivial⟩, rfl, rfl, by kernel_rfl, _, rfl, rfl, rfl, _, Do.own1 tyPiece (l := ([(subl (subl s l5.length s.length) 0 l22.length, true)] : List (List UInt8 × Bool))) (Do.buildSlice (cs := [str (subl (subl s l5.length s.length) 0 l22.length), .bool true]) Tryz.underlying213 tf_zero236 tf_sz236 rfl rfl rfl rfl) rfl rfl (by first | decide | simp), ?_⟩
  rintro _ _ ⟨b24, s25, o26, rfl, rfl⟩
  refine ⟨[], rfl, ?_⟩
  refine ⟨⟨.inr ⟨_, rfl, rfl, .inl ⟨rfl, Do.load tf_flat213 rfl (Cell.own 7 0 rfl rfl rfl)⟩⟩, .inl (by kernel_rfl), .inl (by kernel_rfl), .inl (by kernel_rfl), .inl (by kernel_rfl), .inl (by kernel_rfl), .inl (by kernel_rfl), trivial⟩, rfl, rfl, by kernel_rfl, _, rfl, rfl, rfl, _, Do.append (l := [] ++ [(subl s 0 l5.length, true)]) (news := [(subl (subl s l5.length s.length) 0 l22.length, true)]) 3 tf_el213 rfl o13 (o26.rd (i := 0) rfl) (by first | omega | (simp only [List.length_append, List.length_cons, List.length_nil]; omega) | (simp; done) | (simp; omega)) rfl rfl, ?_⟩
  rintro _ _ ⟨A27, C28, s29, o30, rfl, rfl⟩
  refine ⟨[], rfl, ?_⟩
  refine ⟨⟨.inl (by kernel_rfl), .inl (by kernel_rfl), .inl (by kernel_rfl), .inl (by kernel_rfl), .inl (by kernel_rfl), .inl (by kernel_rfl), .inl (by kernel_rfl), trivial⟩, rfl, rfl, by kernel_rfl, _, rfl, rfl, rfl, _, Do.store (H' := s25 :: [(b21, .cells #[.int .i64 0, .bool true, .bool false] 241 (0, 0))] :: s8 :: s29 :: [(b4, .cells #[.int .i64 0, .bool true, .bool false] 241 (0, 0))] :: [(b3, .cells #[.int .i64 0, .bool true, .bool false, .int .i64 0, .bool true, .bool false, .int .i64 20, .bool false, .bool false] 241 (0, 0))] :: [(b2, .cells #[.bool false] 4 (0, 0))] :: [(b1, .cells #[.slice A27 (([] ++ [(subl s 0 l5.length, true)]) ++ [(subl (subl s l5.length s.length) 0 l22.length, true)]).length C28] 213 (0, 0))] :: H) 7 0 tf_sz213 rfl rfl rfl rfl rfl rfl rfl rfl rfl, ?_⟩
  rintro _ _ ⟨rfl, rfl⟩
  refine ⟨[], rfl, ?_⟩
  refine ⟨⟨.inl (by kernel_rfl), .inl (by kernel_rfl), .inl (by kernel_rfl), .inl (by kernel_rfl), .inl (by kernel_rfl), .inl (by kernel_rfl), .inl (by kernel_rfl), trivial⟩, by kernel_rfl, ?_⟩
  refine At.mono (E' := [(1, str (subl s l5.length s.length)), (4, .pointer (some ⟨b1, 0, none⟩)), (5, .pointer (some ⟨b2, 0, none⟩)), (10, .int .i64 (l22.length : Int)), (22, .slice (some ⟨b3, 0, none⟩) 3 3), (23, .int .i64 3), (24, .int .i64 1)]) ⟨rfl, rfl, rfl, rfl, rfl, rfl, rfl, trivial⟩ ?_
  refine At.region ?_
  refine AtL.move (.inl rfl) rfl rfl ?_
  refine AtL.move (.inl rfl) rfl rfl ?_
  refine AtL.sliceS (l := subl s l5.length s.length) l22.length (subl s l5.length s.length).length (evBound_some rfl rfl) rfl (by omega) (by omega) Tryz.underlying9 (.inl rfl) rfl rfl ?_
  refine AtL.assign (.inl rfl) rfl rfl ?_
  refine AtL.done ?_
  refine At.inBlock ?_
  refine At.region ?_
  refine AtL.add (z := 2) (.inl rfl) rfl rfl rfl (by decide) ?_
  refine AtL.move (.inl rfl) rfl rfl ?_
  refine AtL.done ?_
  refine At.again ?_
  refine At.seq ?_
  refine At.region ?_
  refine AtL.lss (.inl rfl) rfl rfl rfl ?_
  refine AtL.done ?_
  refine At.seq ?_
  refine At.condT rfl ?_
  refine At.skip ?_
  refine At.seq ?_
  refine At.block ?_
  refine At.seq ?_
  refine At.region ?_
  refine AtL.indexB 2 Tryz.underlying232 tf_sz241 (.inl rfl) rfl rfl rfl rfl rfl rfl ?_
  refine AtL.loadN (cs := [.int .i64 20, .bool false, .bool false]) tf_agg241 (.inl rfl) rfl rfl rfl (cellsOwn 5 0 6 rfl rfl rfl) ?_
  refine AtL.alloc tf_zero241 (cs := #[.int .i64 0, .bool false, .bool false]) rfl (.inl rfl) rfl ?_
  intro b38
  refine AtL.store (H' := [(b38, .cells #[.int .i64 20, .bool false, .bool false] 241 (0, 0))] :: s25 :: [(b21, .cells #[.int .i64 0, .bool true, .bool false] 241 (0, 0))] :: s8 :: s29 :: [(b4, .cells #[.int .i64 0, .bool true, .bool false] 241 (0, 0))] :: [(b3, .cells #[.int .i64 0, .bool true, .bool false, .int .i64 0, .bool true, .bool false, .int .i64 20, .bool false, .bool false] 241 (0, 0))] :: [(b2, .cells #[.bool false] 4 (0, 0))] :: [(b1, .cells #[.slice A27 (([] ++ [(subl s 0 l5.length, true)]) ++ [(subl (subl s l5.length s.length) 0 l22.length, true)]).length C28] 213 (0, 0))] :: H) 0 0 tf_sz241 (.inl rfl) rfl rfl rfl rfl rfl rfl rfl rfl rfl ?_
  refine AtL.done ?_
  refine At.seq ?_
  refine At.region ?_
  refine AtL.fieldAddrB tf_fo241_0 (.inl rfl) rfl rfl rfl ?_
  refine AtL.load tf_flat3 (.inl rfl) rfl rfl (Cell.own 0 0 rfl rfl rfl) ?_
  refine AtL.assign (.inl rfl) rfl rfl ?_
  refine AtL.done ?_
  refine At.seq ?_
  refine At.block ?_
  refine At.seq ?_
  refine At.region ?_
  refine AtL.fieldAddrB tf_fo241_2 (.inl rfl) rfl rfl rfl ?_
  refine AtL.load tf_flat4 (.inl rfl) rfl rfl (Cell.own 0 0 rfl rfl rfl) ?_
  refine AtL.move (.inl rfl) rfl rfl ?_
  refine AtL.skipped rfl rfl rfl rfl rfl rfl ?_
  refine AtL.skipped rfl rfl rfl rfl rfl rfl ?_
  refine AtL.pickF (.inl rfl) rfl rfl rfl ?_
  refine AtL.assign (.inl rfl) rfl rfl ?_
  refine AtL.done ?_
  refine At.condF rfl ?_
  refine At.seq ?_
  refine At.region ?_
  refine AtL.fieldAddrB tf_fo241_1 (.inl rfl) rfl rfl rfl ?_
  refine AtL.load tf_flat4 (.inl rfl) rfl rfl (Cell.own 0 0 rfl rfl rfl) ?_
  refine AtL.assign (.inl rfl) rfl rfl ?_
  refine AtL.done ?_
  refine At.condF rfl ?_
  refine At.seq ?_
  refine At.region ?_
  refine AtL.fieldAddrB tf_fo241_2 (.inl rfl) rfl rfl rfl ?_
  refine AtL.load tf_flat4 (.inl rfl) rfl rfl (Cell.own 0 0 rfl rfl rfl) ?_
  refine AtL.move (.inl rfl) rfl rfl ?_
  refine AtL.move (.inr ⟨_, _, _, rfl, rfl, rfl, rfl⟩) rfl rfl ?_
  refine AtL.move (.inr ⟨_, _, _, rfl, rfl, rfl, rfl⟩) rfl rfl ?_
  refine AtL.lenS (l := subl (subl s l5.length s.length) l22.length (subl s l5.length s.length).length) Tryz.underlying9 (.inr ⟨_, _, _, rfl, rfl, rfl, rfl⟩) rfl rfl ?_
  refine AtL.gtr (.inr ⟨_, _, _, rfl, rfl, rfl, rfl⟩) rfl rfl rfl ?_
  refine AtL.pickF (.inl rfl) rfl rfl rfl ?_
  refine AtL.assign (.inl rfl) rfl rfl ?_
  refine AtL.done ?_
  refine At.cond rfl ?_ ?_
  · intro hc5
    have hc5 : ((subl (subl s l5.length s.length) l22.length (subl s l5.length s.length).length).length : Int) < 20 := of_decide_eq_true hc5
    refine At.region ?_
    refine AtL.build (cs := []) tf_lay238 (.inl rfl) rfl rfl rfl ?_
    refine AtL.makeIface Tryz.underlying238 rfl (.inl rfl) rfl rfl ?_
    refine AtL.panicV (.inl rfl) rfl ?_
    refine Un.pick (H' := [(b1, .cells #[.slice A27 (([] ++ [(subl s 0 l5.length, true)]) ++ [(subl (subl s l5.length s.length) 0 l22.length, true)]).length C28] 213 (0, 0))] :: [(b2, .cells #[.bool false] 4 (0, 0))] :: [(b38, .cells #[.int .i64 20, .bool false, .bool false] 241 (0, 0))] :: s25 :: [(b21, .cells #[.int .i64 0, .bool true, .bool false] 241 (0, 0))] :: s8 :: s29 :: [(b4, .cells #[.int .i64 0, .bool true, .bool false] 241 (0, 0))] :: [(b3, .cells #[.int .i64 0, .bool true, .bool false, .int .i64 0, .bool true, .bool false, .int .i64 20, .bool false, .bool false] 241 (0, 0))] :: H) [8, 7, 0, 1, 2, 3, 4, 5, 6] 9 rfl rfl ?_
    refine Un.defer tf_body204 rfl rfl split1_bad ?_
    rintro _ _ ⟨rfl, rfl⟩
    exact Un.leftP (vs := [.slice none 0 0, .bool false]) (H2 := H) [] 9 rfl rfl Tryz.func180 rfl ⟨⟨_, rfl, LoadsTo.flat tf_flat213 (Cell.own 0 0 rfl rfl rfl)⟩, ⟨_, rfl, LoadsTo.flat tf_flat4 (Cell.own 1 0 rfl rfl rfl)⟩, trivial⟩ (⟨_, _, rfl, rfl⟩)
  · intro hc5
    have hc5 : ¬ (((subl (subl s l5.length s.length) l22.length (subl s l5.length s.length).length).length : Int) < 20) := of_decide_eq_false hc5
    refine At.skip ?_
    refine At.inBlock ?_
    refine At.seq ?_
    refine At.draw (es := [7, 8, 9]) (pv := [(0, .slice A27 (([] ++ [(subl s 0 l5.length, true)]) ++ [(subl (subl s l5.length s.length) 0 l22.length, true)]).length C28), (1, str (subl (subl s l5.length s.length) l22.length (subl s l5.length s.length).length)), (2, .int .i64 20), (3, str (subl (subl (subl s l5.length s.length) l22.length (subl s l5.length s.length).length) 0 20)), (4, .pointer (some ⟨b38, 1, none⟩)), (5, .bool false), (6, .agg #[str (subl (subl (subl s l5.length s.length) l22.length (subl s l5.length s.length).length) 0 20), .bool false])]) tf_mixed (by kernel_rfl) (by kernel_rfl) (by kernel_rfl) ?_
    refine ⟨⟨.inr ⟨_, rfl, rfl, .inl ⟨rfl, Do.load tf_flat213 rfl (Cell.own 8 0 rfl rfl rfl)⟩⟩, .inr ⟨_, rfl, rfl, .inl ⟨rfl, Do.move rfl⟩⟩, .inr ⟨_, rfl, rfl, .inl ⟨rfl, Do.move rfl⟩⟩, .inr ⟨_, rfl, rfl, .inl ⟨rfl, Do.sliceS (l := subl (subl s l5.length s.length) l22.length (subl s l5.length s.length).length) 0 20 rfl (evBound_some rfl rfl) (by omega) (by omega) Tryz.underlying9 rfl⟩⟩, .inr ⟨_, rfl, rfl, .inl ⟨rfl, Do.fieldAddrB tf_fo241_1 rfl rfl⟩⟩, .inr ⟨_, rfl, rfl, .inl ⟨rfl, Do.load tf_flat4 rfl (Cell.own 0 0 rfl rfl rfl)⟩⟩, .inr ⟨_, rfl, rfl, .inl ⟨rfl, Do.build (cs := [str (subl (subl (subl s l5.length s.length) l22.length (subl s l5.length s.length).length) 0 20), .bool false]) tf_lay236 rfl rfl⟩⟩, trivial⟩, rfl, rfl, by kernel_rfl, _, rfl, rfl, rfl, _, Do.own1 tyPiece (l := ([(subl (subl (subl s l5.length s.length) l22.length (subl s l5.length s.length).length) 0 20, false)] : List (List UInt8 × Bool))) (Do.buildSlice (cs := [str (subl (subl (subl s l5.length s.length) l22.length (subl s l5.length s.length).length) 0 20), .bool false]) Tryz.underlying213 tf_zero236 tf_sz236 rfl rfl rfl rfl) rfl rfl (by first | decide | simp), ?_⟩
    rintro _ _ ⟨b39, s40, o41, rfl, rfl⟩
    refine ⟨[], rfl, ?_⟩
    refine ⟨⟨.inr ⟨_, rfl, rfl, .inl ⟨rfl, Do.load tf_flat213 rfl (Cell.own 9 0 rfl rfl rfl)⟩⟩, .inl (by kernel_rfl), .inl (by kernel_rfl), .inl (by kernel_rfl), .inl (by kernel_rfl), .inl (by kernel_rfl), .inl (by kernel_rfl), trivial⟩, rfl, rfl, by kernel_rfl, _, rfl, rfl, rfl, _, Do.append (l := ([] ++ [(subl s 0 l5.length, true)]) ++ [(subl (subl s l5.length s.length) 0 l22.length, true)]) (news := [(subl (subl (subl s l5.length s.length) l22.length (subl s l5.length s.length).length) 0 20, false)]) 5 tf_el213 rfl o30 (o41.rd (i := 0) rfl) (by first | omega | (simp only [List.length_append, List.length_cons, List.length_nil]; omega) | (simp; done) | (simp; omega)) rfl rfl, ?_⟩
    rintro _ _ ⟨A42, C43, s44, o45, rfl, rfl⟩
    refine ⟨[], rfl, ?_⟩
    refine ⟨⟨.inl (by kernel_rfl), .inl (by kernel_rfl), .inl (by kernel_rfl), .inl (by kernel_rfl), .inl (by kernel_rfl), .inl (by kernel_rfl), .inl (by kernel_rfl), trivial⟩, rfl, rfl, by kernel_rfl, _, rfl, rfl, rfl, _, Do.store (H' := s40 :: [(b38, .cells #[.int .i64 20, .bool false, .bool false] 241 (0, 0))] :: s25 :: [(b21, .cells #[.int .i64 0, .bool true, .bool false] 241 (0, 0))] :: s8 :: s44 :: [(b4, .cells #[.int .i64 0, .bool true, .bool false] 241 (0, 0))] :: [(b3, .cells #[.int .i64 0, .bool true, .bool false, .int .i64 0, .bool true, .bool false, .int .i64 20, .bool false, .bool false] 241 (0, 0))] :: [(b2, .cells #[.bool false] 4 (0, 0))] :: [(b1, .cells #[.slice A42 ((([] ++ [(subl s 0 l5.length, true)]) ++ [(subl (subl s l5.length s.length) 0 l22.length, true)]) ++ [(subl (subl (subl s l5.length s.length) l22.length (subl s l5.length s.length).length) 0 20, false)]).length C43] 213 (0, 0))] :: H) 9 0 tf_sz213 rfl rfl rfl rfl rfl rfl rfl rfl rfl, ?_⟩
    rintro _ _ ⟨rfl, rfl⟩
    refine ⟨[], rfl, ?_⟩
    refine ⟨⟨.inl (by kernel_rfl), .inl (by kernel_rfl), .inl (by kernel_rfl), .inl (by kernel_rfl), .inl (by kernel_rfl), .inl (by kernel_rfl), .inl (by kernel_rfl), trivial⟩, by kernel_rfl, ?_⟩
    refine At.mono (E' := [(1, str (subl (subl s l5.length s.length) l22.length (subl s l5.length s.length).length)), (4, .pointer (some ⟨b1, 0, none⟩)), (5, .pointer (some ⟨b2, 0, none⟩)), (10, .int .i64 20), (22, .slice (some ⟨b3, 0, none⟩) 3 3), (23, .int .i64 3), (24, .int .i64 2)]) ⟨rfl, rfl, rfl, rfl, rfl, rfl, rfl, trivial⟩ ?_
    refine At.region ?_
    refine AtL.move (.inl rfl) rfl rfl ?_
    refine AtL.move (.inl rfl) rfl rfl ?_
    refine AtL.sliceS (l := subl (subl s l5.length s.length) l22.length (subl s l5.length s.length).length) 20 (subl (subl s l5.length s.length) l22.length (subl s l5.length s.length).length).length (evBound_some rfl rfl) rfl (by omega) (by omega) Tryz.underlying9 (.inl rfl) rfl rfl ?_
    refine AtL.assign (.inl rfl) rfl rfl ?_
    refine AtL.done ?_
    refine At.inBlock ?_
    refine At.region ?_
    refine AtL.add (z := 3) (.inl rfl) rfl rfl rfl (by decide) ?_
    refine AtL.move (.inl rfl) rfl rfl ?_
    refine AtL.done ?_
    refine At.again ?_
    refine At.seq ?_
    refine At.region ?_
    refine AtL.lss (.inl rfl) rfl rfl rfl ?_
    refine AtL.done ?_
    refine At.seq ?_
    refine At.condF rfl ?_
    refine At.exit rfl ?_
    refine At.seq ?_
    refine At.region ?_
    refine AtL.load tf_flat213 (.inl rfl) rfl rfl (Cell.own 9 0 rfl rfl rfl) ?_
    refine AtL.move (.inl rfl) rfl rfl ?_
    refine AtL.eqs (a := subl (subl (subl s l5.length s.length) l22.length (subl s l5.length s.length).length) 20 (subl (subl s l5.length s.length) l22.length (subl s l5.length s.length).length).length) (b := []) (.inl rfl) rfl rfl rfl ?_
    refine AtL.store (H' := s40 :: [(b38, .cells #[.int .i64 20, .bool false, .bool false] 241 (0, 0))] :: s25 :: [(b21, .cells #[.int .i64 0, .bool true, .bool false] 241 (0, 0))] :: s8 :: s44 :: [(b4, .cells #[.int .i64 0, .bool true, .bool false] 241 (0, 0))] :: [(b3, .cells #[.int .i64 0, .bool true, .bool false, .int .i64 0, .bool true, .bool false, .int .i64 20, .bool false, .bool false] 241 (0, 0))] :: [(b2, .cells #[.bool false] 4 (0, 0))] :: [(b1, .cells #[.slice A42 ((([] ++ [(subl s 0 l5.length, true)]) ++ [(subl (subl s l5.length s.length) 0 l22.length, true)]) ++ [(subl (subl (subl s l5.length s.length) l22.length (subl s l5.length s.length).length) 0 20, false)]).length C43] 213 (0, 0))] :: H) 9 0 tf_sz213 (.inl rfl) rfl rfl rfl rfl rfl rfl rfl rfl rfl ?_
    refine AtL.store (H' := s40 :: [(b38, .cells #[.int .i64 20, .bool false, .bool false] 241 (0, 0))] :: s25 :: [(b21, .cells #[.int .i64 0, .bool true, .bool false] 241 (0, 0))] :: s8 :: s44 :: [(b4, .cells #[.int .i64 0, .bool true, .bool false] 241 (0, 0))] :: [(b3, .cells #[.int .i64 0, .bool true, .bool false, .int .i64 0, .bool true, .bool false, .int .i64 20, .bool false, .bool false] 241 (0, 0))] :: [(b2, .cells #[.bool (decide (subl (subl (subl s l5.length s.length) l22.length (subl s l5.length s.length).length) 20 (subl (subl s l5.length s.length) l22.length (subl s l5.length s.length).length).length = []))] 4 (0, 0))] :: [(b1, .cells #[.slice A42 ((([] ++ [(subl s 0 l5.length, true)]) ++ [(subl (subl s l5.length s.length) 0 l22.length, true)]) ++ [(subl (subl (subl s l5.length s.length) l22.length (subl s l5.length s.length).length) 0 20, false)]).length C43] 213 (0, 0))] :: H) 8 0 tf_sz4 (.inl rfl) rfl rfl rfl rfl rfl rfl rfl rfl rfl ?_
    refine AtL.done ?_
    refine At.retU rfl ?_
    refine Un.pick (H' := [(b1, .cells #[.slice A42 ((([] ++ [(subl s 0 l5.length, true)]) ++ [(subl (subl s l5.length s.length) 0 l22.length, true)]) ++ [(subl (subl (subl s l5.length s.length) l22.length (subl s l5.length s.length).length) 0 20, false)]).length C43] 213 (0, 0))] :: [(b2, .cells #[.bool (decide (subl (subl (subl s l5.length s.length) l22.length (subl s l5.length s.length).length) 20 (subl (subl s l5.length s.length) l22.length (subl s l5.length s.length).length).length = []))] 4 (0, 0))] :: s40 :: [(b38, .cells #[.int .i64 20, .bool false, .bool false] 241 (0, 0))] :: s25 :: [(b21, .cells #[.int .i64 0, .bool true, .bool false] 241 (0, 0))] :: s8 :: s44 :: [(b4, .cells #[.int .i64 0, .bool true, .bool false] 241 (0, 0))] :: [(b3, .cells #[.int .i64 0, .bool true, .bool false, .int .i64 0, .bool true, .bool false, .int .i64 20, .bool false, .bool false] 241 (0, 0))] :: H) [9, 8, 0, 1, 2, 3, 4, 5, 6, 7] 10 rfl rfl ?_
    refine Un.defer tf_body204 rfl rfl split1_ret ?_
    rintro _ _ ⟨rfl, rfl⟩
    exact Un.leftP (vs := [.slice A42 ((([] ++ [(subl s 0 l5.length, true)]) ++ [(subl (subl s l5.length s.length) 0 l22.length, true)]) ++ [(subl (subl (subl s l5.length s.length) l22.length (subl s l5.length s.length).length) 0 20, false)]).length C43, .bool (decide (subl (subl (subl s l5.length s.length) l22.length (subl s l5.length s.length).length) 20 (subl (subl s l5.length s.length) l22.length (subl s l5.length s.length).length).length = []))]) (H2 := H) [] 10 rfl rfl Tryz.func180 rfl ⟨⟨_, rfl, LoadsTo.flat tf_flat213 (Cell.own 0 0 rfl rfl rfl)⟩, ⟨_, rfl, LoadsTo.flat tf_flat4 (Cell.own 1 0 rfl rfl rfl)⟩, trivial⟩ (⟨_, _, rfl, rfl⟩)
set_option maxHeartbeats 400000 in
theorem rcheck_ok {w0 : World} {base : Nat} {H : List Seg} (s : List UInt8) :
    SCalls Tryz.prog 137 [.int .i64 6, str s] w0 base (H) (fun v H' => ∃ e : Int, v = int e ∧ H' = H) := by
  refine SCalls.of_walk (n := 26) Tryz.func137 rfl rfl rfl fun cs => ?_
  refine At.seq ?_
  refine At.region ?_
  refine AtL.assign (.inl rfl) rfl rfl ?_
  refine AtL.done ?_
  refine At.seq ?_
  refine At.block ?_
  refine At.seq ?_
  refine At.region ?_
  refine AtL.move (.inl rfl) rfl rfl ?_
  refine AtL.lss (.inl rfl) rfl rfl rfl ?_
  refine AtL.move (.inl rfl) rfl rfl ?_
  refine AtL.move (.inr ⟨_, _, _, rfl, rfl, rfl, rfl⟩) rfl rfl ?_
  refine AtL.gtr (.inr ⟨_, _, _, rfl, rfl, rfl, rfl⟩) rfl rfl rfl ?_
  refine AtL.pickF (.inl rfl) rfl rfl rfl ?_
  refine AtL.assign (.inl rfl) rfl rfl ?_
  refine AtL.done ?_
  refine At.condF rfl ?_
  refine At.seq ?_
  refine At.region ?_
  refine AtL.move (.inl rfl) rfl rfl ?_
  refine AtL.lenS (l := s) Tryz.underlying9 (.inl rfl) rfl rfl ?_
  refine AtL.gtr (.inl rfl) rfl rfl rfl ?_
  refine AtL.assign (.inl rfl) rfl rfl ?_
  refine AtL.done ?_
  refine At.cond rfl ?_ ?_
  · intro hc2
    have hc2 : 65535 < (s.length : Int) := of_decide_eq_true hc2
    refine At.seq ?_
    refine At.region ?_
    refine AtL.assign (.inl rfl) rfl rfl ?_
    refine AtL.done ?_
    exact At.ret Tryz.func137 rfl rfl (⟨_, rfl, rfl⟩)
  · intro hc2
    have hc2 : ¬ (65535 < (s.length : Int)) := of_decide_eq_false hc2
    refine At.skip ?_
    refine At.inBlock ?_
    refine At.seq ?_
    refine At.seq ?_
    refine At.region ?_
    refine AtL.move (.inl rfl) rfl rfl ?_
    refine AtL.move (.inl rfl) rfl rfl ?_
    refine AtL.call tf_body180 (.inl rfl) rfl rfl (split_ok6 s (by omega)) ?_
    rintro _ _ ⟨v1, b2, rfl, hHq⟩
    obtain rfl := hHq.symm
    refine AtL.move (.inl rfl) rfl rfl ?_
    refine AtL.extract (.inl rfl) rfl rfl rfl ?_
    refine AtL.extract (.inl rfl) rfl rfl rfl ?_
    refine AtL.assign (.inl rfl) rfl rfl ?_
    refine AtL.assign (.inl rfl) rfl rfl ?_
    refine AtL.done ?_
    refine At.seq ?_
    refine At.region ?_
    refine AtL.move (.inl rfl) rfl rfl ?_
    refine AtL.not (.inl rfl) rfl rfl ?_
    refine AtL.done ?_
    refine At.cond rfl ?_ ?_
    · intro hc3
      have hc3 : b2 = false := bnot_true hc3
      refine At.seq ?_
      refine At.region ?_
      refine AtL.assign (.inl rfl) rfl rfl ?_
      refine AtL.done ?_
      exact At.ret Tryz.func137 rfl rfl (⟨_, rfl, rfl⟩)
    · intro hc3
      have hc3 : b2 = true := bnot_false hc3
      refine At.skip ?_
      refine At.seq ?_
      refine At.region ?_
      refine AtL.assign (.inl rfl) rfl rfl ?_
      refine AtL.done ?_
      exact At.ret Tryz.func137 rfl rfl (⟨_, rfl, rfl⟩)
set_option maxHeartbeats 400000 in
theorem least_ok {w0 : World} {base : Nat} {H : List Seg} (s : List UInt8) (hs : s.length ≤ 140737488355328) :
    SCalls Tryz.prog 97 [.int .i64 6, str s] w0 base (H) (fun v H' => ∃ (e : Int) (b : Bool), v = .tuple #[int e, .bool b] ∧ H' = H) := by
  refine SCalls.of_walk (n := 30) Tryz.func97 rfl rfl rfl fun cs => ?_
  refine At.seq ?_
  refine At.region ?_
  refine AtL.assign (.inl rfl) rfl rfl ?_
  refine AtL.assign (.inl rfl) rfl rfl ?_
  refine AtL.done ?_
  refine At.seq ?_
  refine At.seq ?_
  refine At.region ?_
  refine AtL.move (.inl rfl) rfl rfl ?_
  refine AtL.nei (.inl rfl) rfl rfl rfl ?_
  refine AtL.move (.inl rfl) rfl rfl ?_
  refine AtL.move (.inr ⟨_, _, _, rfl, rfl, rfl, rfl⟩) rfl rfl ?_
  refine AtL.move (.inr ⟨_, _, _, rfl, rfl, rfl, rfl⟩) rfl rfl ?_
  refine AtL.call tf_body137 (.inr ⟨_, _, _, rfl, rfl, rfl, rfl⟩) rfl rfl (rcheck_ok s) ?_
  rintro _ _ ⟨e1, rfl, hHq⟩
  obtain rfl := hHq.symm
  refine AtL.nei (.inr ⟨_, _, _, rfl, rfl, rfl, rfl⟩) rfl rfl rfl ?_
  refine AtL.pickF (.inl rfl) rfl rfl rfl ?_
  refine AtL.done ?_
  refine At.cond rfl ?_ ?_
  · intro hc1
    have hc1 : ¬ ((e1 : Int) = 0) := of_decide_eq_false (bnot_true hc1)
    refine At.seq ?_
    refine At.region ?_
    refine AtL.assign (.inl rfl) rfl rfl ?_
    refine AtL.assign (.inl rfl) rfl rfl ?_
    refine AtL.done ?_
    exact At.ret Tryz.func97 rfl rfl (⟨_, _, rfl, rfl⟩)
  · intro hc1
    have hc1 : (e1 : Int) = 0 := of_decide_eq_true (bnot_false hc1)
    refine At.skip ?_
    refine At.seq ?_
    refine At.region ?_
    refine AtL.move (.inl rfl) rfl rfl ?_
    refine AtL.bytesOf (l := s) Tryz.underlying9 Tryz.underlying22 Tryz.underlying5 (by first | omega | (simp only [List.length_append, List.length_cons, List.length_nil]; omega) | (simp; done) | (simp; omega)) (.inl rfl) rfl rfl ?_
    intro A2 C3 s4 n6 o5
    refine AtL.move (.inl rfl) rfl rfl ?_
    refine AtL.lenS (l := s) Tryz.underlying9 (.inl rfl) rfl rfl ?_
    refine AtL.sub (z := (s.length : Int) - 4) (.inl rfl) rfl rfl rfl (w64 (by omega) (by omega)) ?_
    refine AtL.call tf_body138 (.inl rfl) rfl rfl (get32_any (l := s) (o5.rd (i := 0) rfl) ((s.length : Int) - 4) (by omega) (by omega) (by omega)) ?_
    rintro _ _ ⟨n7, k8, e9, f10, rfl, rfl⟩
    refine AtL.move (.inl rfl) rfl rfl ?_
    refine AtL.extract (.inl rfl) rfl rfl rfl ?_
    refine AtL.extract (.inl rfl) rfl rfl rfl ?_
    refine AtL.extract (.inl rfl) rfl rfl rfl ?_
    refine AtL.alloc tf_zero133 (cs := #[.int .i64 0, .int .i64 0]) rfl (.inl rfl) rfl ?_
    intro b11
    refine AtL.assign (.inl rfl) rfl rfl ?_
    refine AtL.assign (.inl rfl) rfl rfl ?_
    refine AtL.store (H' := [(b11, .cells #[.int .i64 e9, .int .i64 f10] 133 (0, 0))] :: s4 :: H) 0 0 tf_sz133 (.inl rfl) rfl rfl rfl rfl rfl rfl rfl rfl rfl ?_
    refine AtL.done ?_
    refine At.seq ?_
    refine At.seq ?_
    refine At.region ?_
    refine AtL.move (.inl rfl) rfl rfl ?_
    refine AtL.geq (.inl rfl) rfl rfl rfl ?_
    refine AtL.done ?_
    refine At.cond rfl ?_ ?_
    · intro hc2
      have hc2 : 2147483648 ≤ (n7 : Int) := of_decide_eq_true hc2
      refine At.region ?_
      refine AtL.assign (.inl rfl) rfl rfl ?_
      refine AtL.done ?_
      refine At.seq ?_
      refine At.region ?_
      refine AtL.move (.inl rfl) rfl rfl ?_
      refine AtL.assign (.inl rfl) rfl rfl ?_
      refine AtL.assign (.inl rfl) rfl rfl ?_
      refine AtL.done ?_
      refine At.pick (H' := H) [] 2 rfl rfl ?_
      exact At.ret Tryz.func97 rfl rfl (⟨_, _, rfl, rfl⟩)
    · intro hc2
      have hc2 : ¬ (2147483648 ≤ (n7 : Int)) := of_decide_eq_false hc2
      refine At.skip ?_
      refine At.seq ?_
      refine At.region ?_
      refine AtL.move (.inl rfl) rfl rfl ?_
      refine AtL.assign (.inl rfl) rfl rfl ?_
      refine AtL.assign (.inl rfl) rfl rfl ?_
      refine AtL.done ?_
      refine At.pick (H' := H) [] 2 rfl rfl ?_
      exact At.ret Tryz.func97 rfl rfl (⟨_, _, rfl, rfl⟩)
theorem least_t {w0 : World} {base : Nat} {H : List Seg} {t : Int} (s : List UInt8) (hs : s.length ≤ 140737488355328) (ht : t = 6) : SCalls Tryz.prog 97 [int t, str s] w0 base H (fun v H' => ∃ (e : Int) (b : Bool), v = .tuple #[int e, .bool b] ∧ H' = H) := by
  subst ht; exact least_ok s hs
end Go.Proofs.YtlkdmbpbjhjkfaaGreatDoor
namespace Go.Proofs.YtlkdmbpbjhjkfaaGreatDoor
set_option linter.unusedVariables false
set_option linter.unusedSimpArgs false
set_option maxRecDepth 100000
def codeF (f : Int) : Int := IntKind.i64.wrap ((BitVec.ofInt IntKind.i64.bits f &&& BitVec.ofInt IntKind.i64.bits 15).toNat : Int)
def ttls (an : List (List UInt8 × Int × Int × Int × List UInt8)) : List Int := an.map fun x => max 0 x.2.2.2.1
theorem ttls_snoc (an : List (List UInt8 × Int × Int × Int × List UInt8)) (i : Nat) (h : i < an.length) : ttls (an.take (i + 1)) = ttls (an.take i) ++ [max 0 (an.getD i (([], 0, 0, 0, []) : List UInt8 × Int × Int × Int × List UInt8)).2.2.2.1] := by
  have h1 : an.take (i + 1) = an.take i ++ [an.getD i (([], 0, 0, 0, []) : List UInt8 × Int × Int × Int × List UInt8)] := by rw [List.take_succ_eq_append_getElem h]; simp [List.getD, h]
  rw [h1, ttls, ttls, List.map_append]; rfl
theorem ttls_len (an : List (List UInt8 × Int × Int × Int × List UInt8)) : (ttls an).length = an.length := by simp [ttls]
def AgeP (c : Int) (an ns : List (List UInt8 × Int × Int × Int × List UInt8)) (z : Int) : Prop :=
  ((c = 0 ∨ c = 3) ∧ ∃ s : List Int, (s = [] ∨ ∃ y, 0 ≤ y ∧ (ns = [] → y = 0) ∧ s = [y]) ∧ ((c = 3 ∨ an = []) ∨ s = []) ∧ z ∈ ttls an ++ s ∧ ∀ u ∈ ttls an ++ s, z ≤ u) ∨ ((¬ c = 0 ∧ ¬ c = 3) ∧ z = 0)
theorem AgeP.pos {c : Int} {an ns : List (List UInt8 × Int × Int × Int × List UInt8)} {z : Int} (h : AgeP c an ns z) : 0 ≤ z := by
  rcases h with ⟨_, s, hs, _, hz, _⟩ | ⟨_, rfl⟩
  · rcases List.mem_append.1 hz with h | h
    · obtain ⟨x, _, rfl⟩ := List.mem_map.1 h; omega
    · rcases hs with rfl | ⟨y, hy, _, rfl⟩
      · cases h
      · rw [List.mem_singleton.1 h]; exact hy
  · omega
theorem AgeP.zero {c : Int} {an ns : List (List UInt8 × Int × Int × Int × List UInt8)} {z : Int} (h : AgeP c an ns z) : (c = 0 ∨ c = 3) ∨ z = 0 := by
  rcases h with ⟨h, _⟩ | ⟨_, h⟩
  · exact .inl h
  · exact .inr h
theorem AgeP.le {c : Int} {an ns : List (List UInt8 × Int × Int × Int × List UInt8)} {z : Int} (h : AgeP c an ns z) : ∀ x ∈ an, z ≤ max 0 x.2.2.2.1 := by
  intro x hx
  rcases h with ⟨_, s, _, _, _, h⟩ | ⟨_, rfl⟩
  · exact h _ (List.mem_append_left _ (List.mem_map.2 ⟨x, hx, rfl⟩))
  · omega
theorem AgeP.one {x : (List UInt8 × Int × Int × Int × List UInt8)} {ns : List (List UInt8 × Int × Int × Int × List UInt8)} {z : Int} (h : AgeP 0 [x] ns z) : z = max 0 x.2.2.2.1 := by
  rcases h with ⟨_, s, _, h1, h2, _⟩ | ⟨h, _⟩
  · rcases h1 with (h1 | h1) | rfl
    · omega
    · cases h1
    · simpa [ttls] using h2
  · exact absurd rfl h.1
theorem AgeP.none {z : Int} (h : AgeP 0 [] [] z) : z = 0 := by
  rcases h with ⟨_, s, h1, _, h2, _⟩ | ⟨_, h⟩
  · rcases h1 with rfl | ⟨y, _, hy, rfl⟩
    · simp [ttls] at h2
    · rw [hy rfl] at h2; simpa [ttls] using h2
  · exact h
theorem all_getD {α : Type} {l : List α} {d : α} {P : α → Prop} (h : ∀ j, j < l.length → P (l.getD j d)) : ∀ x ∈ l, P x := by
  intro x hx
  obtain ⟨j, hj, rfl⟩ := List.mem_iff_getElem.1 hx
  have := h j hj
  rwa [show l.getD j d = l[j] by simp [List.getD, hj]] at this
set_option maxHeartbeats 400000 in
theorem code_ok {w0 : World} {base : Nat} {H : List Seg} (f : Int) :
    SCalls Tryz.prog 58 [.int .i64 f] w0 base (H) (fun v H' => v = int (codeF f) ∧ H' = H) := by
  refine SCalls.of_walk (n := 5) Tryz.func58 rfl rfl rfl fun cs => ?_
  refine At.seq ?_
  refine At.region ?_
  refine AtL.assign (.inl rfl) rfl rfl ?_
  refine AtL.done ?_
  refine At.seq ?_
  refine At.region ?_
  refine AtL.move (.inl rfl) rfl rfl ?_
  refine AtL.band (z := codeF f) (.inl rfl) rfl rfl rfl rfl ?_
  refine AtL.assign (.inl rfl) rfl rfl ?_
  refine AtL.done ?_
  exact At.ret Tryz.func58 rfl rfl (⟨rfl, rfl⟩)
set_option maxHeartbeats 400000 in
theorem soa_ok {w0 : World} {base : Nat} {H : List Seg} {id flags : Int} {Aq Aa An Ar : Option Addr} {Cq Ca Cn Cr : Nat} {qs : List (List UInt8 × Int × Int)} {an ns ar : List (List UInt8 × Int × Int × Int × List UInt8)} (hq : Rd tyQn w0 base H Aq Cq qs) (ha : Rd tyRec w0 base H Aa Ca an) (hn : Rd tyRec w0 base H An Cn ns) (hr : Rd tyRec w0 base H Ar Cr ar) (hns : ∀ x ∈ ns, x.2.2.2.2.length ≤ 140737488355328) :
    SCalls Tryz.prog 59 [.agg #[.int .i64 id, .int .i64 flags, .slice Aq qs.length Cq, .slice Aa an.length Ca, .slice An ns.length Cn, .slice Ar ar.length Cr]] w0 base (H) (fun v H' => ∃ z : Int, v = int z ∧ 0 ≤ z ∧ (ns = [] → z = 0) ∧ H' = H) := by
  have hleq := hq.le
  have hcapq := hq.cap
  have hlea := ha.le
  have hcapa := ha.cap
  have hlen := hn.le
  have hcapn := hn.cap
  have hler := hr.le
  have hcapr := hr.cap
  refine SCalls.of_walk (n := 33) Tryz.func59 rfl rfl rfl fun cs => ?_
  refine At.seq ?_
  refine At.region ?_
  refine AtL.box (cs := #[.int .i64 id, .int .i64 flags, .slice Aq qs.length Cq, .slice Aa an.length Ca, .slice An ns.length Cn, .slice Ar ar.length Cr]) rfl (.inl rfl) rfl rfl ?_
  intro b1
  refine AtL.assign (.inl rfl) rfl rfl ?_
  refine AtL.done ?_
  refine At.seq ?_
  refine At.seq ?_
  refine At.region ?_
  refine AtL.fieldAddrB tf_fo84_4 (.inl rfl) rfl rfl rfl ?_
  refine AtL.load tf_flat81 (.inl rfl) rfl rfl (Cell.own 0 0 rfl rfl rfl) ?_
  refine AtL.lenL Tryz.underlying81 (.inl rfl) rfl rfl ?_
  refine AtL.move (.inl rfl) rfl rfl ?_
  refine AtL.done ?_
  refine At.block ?_
  refine At.pick (H' := H) [] 1 rfl rfl ?_
  refine At.loop (fun (i : Nat) => [(8, .slice An ns.length Cn), (9, .int .i64 (ns.length : Int)), (10, .int .i64 (i : Int))]) (fun (i : Nat) => H) (fun (i : Nat) => i ≤ ns.length) (fun (i : Nat) => ns.length - i) 0 (Nat.zero_le _) ⟨rfl, rfl, rfl, trivial⟩ rfl ?_
  rintro i hi ihL1
  refine At.seq ?_
  refine At.region ?_
  refine AtL.lss (.inl rfl) rfl rfl rfl ?_
  refine AtL.done ?_
  refine At.seq ?_
  refine At.cond rfl ?_ ?_
  · intro hc1
    have hc1 : (i : Int) < (ns.length : Int) := of_decide_eq_true hc1
    have hlt : i < ns.length := by omega
    refine At.skip ?_
    refine At.seq ?_
    refine At.block ?_
    refine At.seq ?_
    refine At.region ?_
    refine AtL.indexL i hn Tryz.underlying81 tf_sz80 (.inl rfl) rfl rfl rfl rfl (by omega) ?_
    refine AtL.loadE (n := 0) hn (getD_some (([], 0, 0, 0, []) : List UInt8 × Int × Int × Int × List UInt8) (by omega)) rfl tf_agg80 (.inl rfl) rfl rfl ?_
    refine AtL.alloc tf_zero80 (cs := #[str [], .int .i64 0, .int .i64 0, .int .i64 0, str []]) rfl (.inl rfl) rfl ?_
    intro b2
    refine AtL.store (H' := [(b2, .cells #[str ((ns.getD i (([], 0, 0, 0, []) : List UInt8 × Int × Int × Int × List UInt8)).1), .int .i64 ((ns.getD i (([], 0, 0, 0, []) : List UInt8 × Int × Int × Int × List UInt8)).2.1), .int .i64 ((ns.getD i (([], 0, 0, 0, []) : List UInt8 × Int × Int × Int × List UInt8)).2.2.1), .int .i64 ((ns.getD i (([], 0, 0, 0, []) : List UInt8 × Int × Int × Int × List UInt8)).2.2.2.1), str ((ns.getD i (([], 0, 0, 0, []) : List UInt8 × Int × Int × Int × List UInt8)).2.2.2.2)] 80 (0, 0))] :: H) 0 0 tf_sz80 (.inl rfl) rfl rfl rfl rfl rfl rfl rfl rfl rfl ?_
    refine AtL.done ?_
    refine At.seq ?_
    refine At.region ?_
    refine AtL.fieldAddrB tf_fo80_1 (.inl rfl) rfl rfl rfl ?_
    refine AtL.load tf_flat3 (.inl rfl) rfl rfl (Cell.own 0 0 rfl rfl rfl) ?_
    refine AtL.eqi (.inl rfl) rfl rfl rfl ?_
    refine AtL.done ?_
    refine At.cond rfl ?_ ?_
    · intro hc2
      have hc2 : ((ns.getD i (([], 0, 0, 0, []) : List UInt8 × Int × Int × Int × List UInt8)).2.1) = 6 := of_decide_eq_true hc2
      refine At.seq ?_
      refine At.region ?_
      refine AtL.fieldAddrB tf_fo80_1 (.inl rfl) rfl rfl rfl ?_
      refine AtL.load tf_flat3 (.inl rfl) rfl rfl (Cell.own 0 0 rfl rfl rfl) ?_
      refine AtL.fieldAddrB tf_fo80_4 (.inl rfl) rfl rfl rfl ?_
      refine AtL.load tf_flat9 (.inl rfl) rfl rfl (Cell.own 0 0 rfl rfl rfl) ?_
      refine AtL.call tf_body97 (.inl rfl) rfl rfl (least_t ((ns.getD i (([], 0, 0, 0, []) : List UInt8 × Int × Int × Int × List UInt8)).2.2.2.2) (hns _ (getD_mem (l := ns) (i := i) (d := (([], 0, 0, 0, []) : List UInt8 × Int × Int × Int × List UInt8)) (by omega))) hc2) ?_
      rintro _ _ ⟨e3, b4, rfl, rfl⟩
      refine AtL.move (.inl rfl) rfl rfl ?_
      refine AtL.extract (.inl rfl) rfl rfl rfl ?_
      refine AtL.extract (.inl rfl) rfl rfl rfl ?_
      refine AtL.assign (.inl rfl) rfl rfl ?_
      refine AtL.assign (.inl rfl) rfl rfl ?_
      refine AtL.done ?_
      refine At.seq ?_
      refine At.seq ?_
      refine At.region ?_
      refine AtL.move (.inl rfl) rfl rfl ?_
      refine AtL.not (.inl rfl) rfl rfl ?_
      refine AtL.done ?_
      refine At.cond rfl ?_ ?_
      · intro hc3
        have hc3 : b4 = false := bnot_true hc3
        refine At.seq ?_
        refine At.region ?_
        refine AtL.assign (.inl rfl) rfl rfl ?_
        refine AtL.done ?_
        refine At.pick (H' := H) [] 1 rfl rfl ?_
        exact At.ret Tryz.func59 rfl rfl (⟨_, rfl, by omega, fun h => (by subst h; simp at hlt), rfl⟩)
      · intro hc3
        have hc3 : b4 = true := bnot_false hc3
        refine At.skip ?_
        refine At.seq ?_
        refine At.region ?_
        refine AtL.fieldAddrB tf_fo80_3 (.inl rfl) rfl rfl rfl ?_
        refine AtL.load tf_flat3 (.inl rfl) rfl rfl (Cell.own 0 0 rfl rfl rfl) ?_
        refine AtL.move (.inl rfl) rfl rfl ?_
        refine AtL.minZ (z := min ((ns.getD i (([], 0, 0, 0, []) : List UInt8 × Int × Int × Int × List UInt8)).2.2.2.1) e3) (.inl rfl) rfl rfl rfl (by omega) ?_
        refine AtL.maxZ (z := max 0 (min ((ns.getD i (([], 0, 0, 0, []) : List UInt8 × Int × Int × Int × List UInt8)).2.2.2.1) e3)) (.inl rfl) rfl rfl rfl (by omega) ?_
        refine AtL.assign (.inl rfl) rfl rfl ?_
        refine AtL.done ?_
        refine At.pick (H' := H) [] 1 rfl rfl ?_
        exact At.ret Tryz.func59 rfl rfl (⟨_, rfl, by omega, fun h => (by subst h; simp at hlt), rfl⟩)
    · intro hc2
      have hc2 : ¬ (((ns.getD i (([], 0, 0, 0, []) : List UInt8 × Int × Int × Int × List UInt8)).2.1) = 6) := of_decide_eq_false hc2
      refine At.skip ?_
      refine At.inBlock ?_
      refine At.region ?_
      refine AtL.add (z := (i : Int) + 1) (.inl rfl) rfl rfl rfl (w64 (by omega) (by omega)) ?_
      refine AtL.move (.inl rfl) rfl rfl ?_
      refine AtL.done ?_
      refine At.pick (H' := H) [] 1 rfl rfl ?_
      refine ihL1 (i + 1) (by omega) (by omega) _ ?_
      exact ⟨rfl, rfl, (by first | rfl | exact slLen (by simp []) | exact intEq (by omega) | exact intEq (by simp []) | exact slLen (by simp []; omega)), trivial⟩
  · intro hc1
    have hc1 : ¬ ((i : Int) < (ns.length : Int)) := of_decide_eq_false hc1
    refine At.exit rfl ?_
    refine At.seq ?_
    refine At.region ?_
    refine AtL.assign (.inl rfl) rfl rfl ?_
    refine AtL.done ?_
    exact At.ret Tryz.func59 rfl rfl (⟨_, rfl, by omega, fun _ => rfl, rfl⟩)
theorem min_mem {a b : Int} {l : List Int} (ha : a ∈ l) (hb : b ∈ l) : min a b ∈ l := by
  rcases Int.le_total a b with h | h
  · rw [Int.min_eq_left h]; exact ha
  · rw [Int.min_eq_right h]; exact hb
set_option maxHeartbeats 400000 in
theorem age_ok {w0 : World} {base : Nat} {H : List Seg} {id flags : Int} {Aq Aa An Ar : Option Addr} {Cq Ca Cn Cr : Nat} {qs : List (List UInt8 × Int × Int)} {an ns ar : List (List UInt8 × Int × Int × Int × List UInt8)} (hq : Rd tyQn w0 base H Aq Cq qs) (ha : Rd tyRec w0 base H Aa Ca an) (hn : Rd tyRec w0 base H An Cn ns) (hr : Rd tyRec w0 base H Ar Cr ar) (hns : ∀ x ∈ ns, x.2.2.2.2.length ≤ 140737488355328) (hal : an.length ≤ 1000000) :
    SCalls Tryz.prog 40 [.agg #[.int .i64 id, .int .i64 flags, .slice Aq qs.length Cq, .slice Aa an.length Ca, .slice An ns.length Cn, .slice Ar ar.length Cr]] w0 base (H) (fun v H' => ∃ z : Int, v = int z ∧ AgeP (codeF flags) an ns z ∧ H' = H) := by
  have hleq := hq.le
  have hcapq := hq.cap
  have hlea := ha.le
  have hcapa := ha.cap
  have hlen := hn.le
  have hcapn := hn.cap
  have hler := hr.le
  have hcapr := hr.cap
  refine SCalls.of_walk (n := 59) Tryz.func40 rfl rfl rfl fun cs => ?_
  refine At.seq ?_
  refine At.region ?_
  refine AtL.box (cs := #[.int .i64 id, .int .i64 flags, .slice Aq qs.length Cq, .slice Aa an.length Ca, .slice An ns.length Cn, .slice Ar ar.length Cr]) rfl (.inl rfl) rfl rfl ?_
  intro b1
  refine AtL.assign (.inl rfl) rfl rfl ?_
  refine AtL.done ?_
  refine At.seq ?_
  refine At.region ?_
  refine AtL.fieldAddrB tf_fo84_1 (.inl rfl) rfl rfl rfl ?_
  refine AtL.load tf_flat3 (.inl rfl) rfl rfl (Cell.own 0 0 rfl rfl rfl) ?_
  refine AtL.call tf_body58 (.inl rfl) rfl rfl (code_ok flags) ?_
  rintro _ _ ⟨rfl, rfl⟩
  refine AtL.assign (.inl rfl) rfl rfl ?_
  refine AtL.done ?_
  refine At.seq ?_
  refine At.seq ?_
  refine At.region ?_
  refine AtL.move (.inl rfl) rfl rfl ?_
  refine AtL.nei (.inl rfl) rfl rfl rfl ?_
  refine AtL.move (.inl rfl) rfl rfl ?_
  refine AtL.join 3 (E' := [(18, .bool (decide ((¬ (((codeF flags) : Int) = 0)) ∧ (¬ (((codeF flags) : Int) = 3))))), (1, .pointer (some ⟨b1, 0, none⟩)), (3, .int .i64 (codeF flags))]) (H' := [(b1, .cells #[.int .i64 id, .int .i64 flags, .slice Aq qs.length Cq, .slice Aa an.length Ca, .slice An ns.length Cn, .slice Ar ar.length Cr] 84 (0, 0))] :: H) (fun J => ?_) ?_
  · refine AtL.split (t := 15) rfl ?_ ?_
    · intro hs15
      have hs15 : ¬ (((codeF flags) : Int) = 0) := of_decide_eq_false (bnot_true hs15)
      refine AtL.move (.inr ⟨_, _, _, rfl, rfl, rfl, rfl⟩) rfl rfl ?_
      refine AtL.nei (.inr ⟨_, _, _, rfl, rfl, rfl, rfl⟩) rfl rfl rfl ?_
      refine AtL.pickT (.inl rfl) rfl rfl rfl ?_
      exact J _ (by exact ⟨(boolIs (by clear J; first | (simp [hs15]; done) | (simp_all; done) | grind)), rfl, rfl, trivial⟩)
    · intro hs15
      have hs15 : ((codeF flags) : Int) = 0 := of_decide_eq_true (bnot_false hs15)
      refine AtL.skipped rfl rfl rfl rfl rfl rfl ?_
      refine AtL.skipped rfl rfl rfl rfl rfl rfl ?_
      refine AtL.pickF (.inl rfl) rfl rfl rfl ?_
      exact J _ (by exact ⟨(boolIs (by clear J; first | (simp [hs15]; done) | (simp_all; done) | grind)), rfl, rfl, trivial⟩)
  · skip
    refine AtL.done ?_
    refine At.cond rfl ?_ ?_
    · intro hc1
      have hc1 : (¬ (((codeF flags) : Int) = 0)) ∧ (¬ (((codeF flags) : Int) = 3)) := of_decide_eq_true hc1
      refine At.seq ?_
      refine At.region ?_
      refine AtL.assign (.inl rfl) rfl rfl ?_
      refine AtL.done ?_
      refine At.pick (H' := H) [] 1 rfl rfl ?_
      exact At.ret Tryz.func40 rfl rfl (⟨_, rfl, .inr ⟨by first | assumption | omega, rfl⟩, rfl⟩)
    · intro hc1
      have hc1 : ¬ ((¬ (((codeF flags) : Int) = 0)) ∧ (¬ (((codeF flags) : Int) = 3))) := of_decide_eq_false hc1
      refine At.skip ?_
      refine At.seq ?_
      refine At.region ?_
      refine AtL.assign (.inl rfl) rfl rfl ?_
      refine AtL.done ?_
      refine At.seq ?_
      refine At.seq ?_
      refine At.region ?_
      refine AtL.fieldAddrB tf_fo84_3 (.inl rfl) rfl rfl rfl ?_
      refine AtL.load tf_flat81 (.inl rfl) rfl rfl (Cell.own 0 0 rfl rfl rfl) ?_
      refine AtL.lenL Tryz.underlying81 (.inl rfl) rfl rfl ?_
      refine AtL.move (.inl rfl) rfl rfl ?_
      refine AtL.done ?_
      refine At.block ?_
      refine At.nil ?_
      refine At.loop2 (fun (i : Nat) (x : Sl tyI 3) => [(1, .pointer (some ⟨b1, 0, none⟩)), (3, .int .i64 (codeF flags)), (4, .slice x.A x.l.length x.C), (20, .slice Aa an.length Ca), (21, .int .i64 (an.length : Int)), (22, .int .i64 (i : Int))]) (fun (i : Nat) (x : Sl tyI 3) => x.s :: [(b1, .cells #[.int .i64 id, .int .i64 flags, .slice Aq qs.length Cq, .slice Aa an.length Ca, .slice An ns.length Cn, .slice Ar ar.length Cr] 84 (0, 0))] :: H) (fun (i : Nat) (x : Sl tyI 3) => i ≤ an.length ∧ x.l = ttls (an.take i)) (fun (i : Nat) (x : Sl tyI 3) => an.length - i) 0 Sl.nil (⟨Nat.zero_le _, rfl⟩) ⟨rfl, rfl, rfl, rfl, rfl, rfl, trivial⟩ rfl ?_
      rintro i x ⟨hi, hx⟩ ihL1
      have hcap := Own.cap_le x.own
      have hle := Own.le_cap x.own
      have hxl : x.l.length = i := by rw [hx, ttls_len, List.length_take]; omega
      refine At.seq ?_
      refine At.region ?_
      refine AtL.lss (.inl rfl) rfl rfl rfl ?_
      refine AtL.done ?_
      refine At.seq ?_
      refine At.cond rfl ?_ ?_
      · intro hc2
        have hc2 : (i : Int) < (an.length : Int) := of_decide_eq_true hc2
        refine At.skip ?_
        refine At.seq ?_
        refine At.block ?_
        refine At.seq ?_
        refine At.region ?_
        refine AtL.indexL i (Rd.skip 2 ha) Tryz.underlying81 tf_sz80 (.inl rfl) rfl rfl rfl rfl (by omega) ?_
        refine AtL.loadE (n := 0) (Rd.skip 2 ha) (getD_some (([], 0, 0, 0, []) : List UInt8 × Int × Int × Int × List UInt8) (by omega)) rfl tf_agg80 (.inl rfl) rfl rfl ?_
        refine AtL.alloc tf_zero80 (cs := #[str [], .int .i64 0, .int .i64 0, .int .i64 0, str []]) rfl (.inl rfl) rfl ?_
        intro b2
        refine AtL.store (H' := [(b2, .cells #[str ((an.getD i (([], 0, 0, 0, []) : List UInt8 × Int × Int × Int × List UInt8)).1), .int .i64 ((an.getD i (([], 0, 0, 0, []) : List UInt8 × Int × Int × Int × List UInt8)).2.1), .int .i64 ((an.getD i (([], 0, 0, 0, []) : List UInt8 × Int × Int × Int × List UInt8)).2.2.1), .int .i64 ((an.getD i (([], 0, 0, 0, []) : List UInt8 × Int × Int × Int × List UInt8)).2.2.2.1), str ((an.getD i (([], 0, 0, 0, []) : List UInt8 × Int × Int × Int × List UInt8)).2.2.2.2)] 80 (0, 0))] :: x.s :: [(b1, .cells #[.int .i64 id, .int .i64 flags, .slice Aq qs.length Cq, .slice Aa an.length Ca, .slice An ns.length Cn, .slice Ar ar.length Cr] 84 (0, 0))] :: H) 0 0 tf_sz80 (.inl rfl) rfl rfl rfl rfl rfl rfl rfl rfl rfl ?_
        refine AtL.done ?_
        refine At.region ?_
        refine AtL.move (.inl rfl) rfl rfl ?_
        refine AtL.fieldAddrB tf_fo80_3 (.inl rfl) rfl rfl rfl ?_
        refine AtL.load tf_flat3 (.inl rfl) rfl rfl (Cell.own 0 0 rfl rfl rfl) ?_
        refine AtL.maxZ (z := max 0 ((an.getD i (([], 0, 0, 0, []) : List UInt8 × Int × Int × Int × List UInt8)).2.2.2.1)) (.inl rfl) rfl rfl rfl (by omega) ?_
        refine AtL.buildSlice (cs := [.int .i64 (max 0 ((an.getD i (([], 0, 0, 0, []) : List UInt8 × Int × Int × Int × List UInt8)).2.2.2.1))]) Tryz.underlying55 tf_zero3 tf_sz3 rfl rfl (.inl rfl) rfl rfl rfl ?_
        intro b3
        refine AtL.own1 tyI (l := ([max 0 ((an.getD i (([], 0, 0, 0, []) : List UInt8 × Int × Int × Int × List UInt8)).2.2.2.1)] : List Int)) rfl rfl (by first | decide | simp) ?_
        intro s4 o5
        refine AtL.append (l := x.l) (news := [max 0 ((an.getD i (([], 0, 0, 0, []) : List UInt8 × Int × Int × Int × List UInt8)).2.2.2.1)]) 2 tf_el55 rfl x.own (o5.rd (i := 0) rfl) (by first | omega | (simp only [List.length_append, List.length_cons, List.length_nil]; omega) | (simp; done) | (simp; omega)) (.inl rfl) rfl rfl rfl ?_
        intro A6 C7 s8 o9
        refine AtL.assign (.inl rfl) rfl rfl ?_
        refine AtL.done ?_
        refine At.inBlock ?_
        refine At.region ?_
        refine AtL.add (z := (i : Int) + 1) (.inl rfl) rfl rfl rfl (w64 (by omega) (by omega)) ?_
        refine AtL.move (.inl rfl) rfl rfl ?_
        refine AtL.done ?_
        refine At.pick (H' := s8 :: [(b1, .cells #[.int .i64 id, .int .i64 flags, .slice Aq qs.length Cq, .slice Aa an.length Ca, .slice An ns.length Cn, .slice Ar ar.length Cr] 84 (0, 0))] :: H) [2, 3] 4 rfl rfl ?_
        refine ihL1 (i + 1) (⟨A6, C7, x.l ++ ([max 0 ((an.getD i (([], 0, 0, 0, []) : List UInt8 × Int × Int × Int × List UInt8)).2.2.2.1)]), s8, o9⟩) (⟨by omega, by rw [ttls_snoc _ _ (by omega), ← hx]⟩) (by omega) _ ?_
        exact ⟨rfl, rfl, (by first | rfl | exact slLen (by simp []) | exact intEq (by omega) | exact intEq (by simp []) | exact slLen (by simp []; omega)), rfl, rfl, (by first | rfl | exact slLen (by simp []) | exact intEq (by omega) | exact intEq (by simp []) | exact slLen (by simp []; omega)), trivial⟩
      · intro hc2
        have hc2 : ¬ ((i : Int) < (an.length : Int)) := of_decide_eq_false hc2
        rw [List.take_of_length_le (by omega)] at hx
        refine At.exit rfl ?_
        refine At.seq ?_
        refine At.seq ?_
        refine At.region ?_
        refine AtL.move (.inl rfl) rfl rfl ?_
        refine AtL.eqi (.inl rfl) rfl rfl rfl ?_
        refine AtL.move (.inl rfl) rfl rfl ?_
        refine AtL.join 4 (E' := [(39, .bool (decide ((((codeF flags) : Int) = 3) ∨ ((x.l.length : Int) = 0)))), (1, .pointer (some ⟨b1, 0, none⟩)), (4, .slice x.A x.l.length x.C)]) (H' := x.s :: [(b1, .cells #[.int .i64 id, .int .i64 flags, .slice Aq qs.length Cq, .slice Aa an.length Ca, .slice An ns.length Cn, .slice Ar ar.length Cr] 84 (0, 0))] :: H) (fun J => ?_) ?_
        · refine AtL.split (t := 35) rfl ?_ ?_
          · intro hs35
            have hs35 : ((codeF flags) : Int) = 3 := of_decide_eq_true hs35
            refine AtL.skipped rfl rfl rfl rfl rfl rfl ?_
            refine AtL.skipped rfl rfl rfl rfl rfl rfl ?_
            refine AtL.skipped rfl rfl rfl rfl rfl rfl ?_
            refine AtL.pickT (.inl rfl) rfl rfl rfl ?_
            exact J _ (by exact ⟨(boolIs (by clear J; first | (simp [hs35]; done) | (simp_all; done) | grind)), rfl, rfl, trivial⟩)
          · intro hs35
            have hs35 : ¬ (((codeF flags) : Int) = 3) := of_decide_eq_false hs35
            refine AtL.move (.inr ⟨_, _, _, rfl, rfl, rfl, rfl⟩) rfl rfl ?_
            refine AtL.lenL Tryz.underlying55 (.inr ⟨_, _, _, rfl, rfl, rfl, rfl⟩) rfl rfl ?_
            refine AtL.eqi (.inr ⟨_, _, _, rfl, rfl, rfl, rfl⟩) rfl rfl rfl ?_
            refine AtL.pickF (.inl rfl) rfl rfl rfl ?_
            exact J _ (by exact ⟨(boolIs (by clear J; first | (simp [hs35]; done) | (simp_all; done) | grind)), rfl, rfl, trivial⟩)
        · skip
          refine AtL.done ?_
          refine At.cond rfl ?_ ?_
          · intro hc3
            have hc3 : (((codeF flags) : Int) = 3) ∨ ((x.l.length : Int) = 0) := of_decide_eq_true hc3
            refine At.region ?_
            refine AtL.move (.inl rfl) rfl rfl ?_
            refine AtL.loadN (cs := [.int .i64 id, .int .i64 flags, .slice Aq qs.length Cq, .slice Aa an.length Ca, .slice An ns.length Cn, .slice Ar ar.length Cr]) tf_agg84 (.inl rfl) rfl rfl rfl (cellsOwn 1 0 0 rfl rfl rfl) ?_
            refine AtL.call tf_body59 (.inl rfl) rfl rfl (soa_ok (id := id) (flags := flags) (qs := qs) (an := an) (ns := ns) (ar := ar) (Rd.skip 2 hq) (Rd.skip 2 ha) (Rd.skip 2 hn) (Rd.skip 2 hr) hns) ?_
            rintro _ _ ⟨zs10, rfl, hz11, hz12, rfl⟩
            refine AtL.buildSlice (cs := [.int .i64 zs10]) Tryz.underlying55 tf_zero3 tf_sz3 rfl rfl (.inl rfl) rfl rfl rfl ?_
            intro b13
            refine AtL.own1 tyI (l := ([zs10] : List Int)) rfl rfl (by first | decide | simp) ?_
            intro s14 o15
            refine AtL.append (l := x.l) (news := [zs10]) 1 tf_el55 rfl x.own (o15.rd (i := 0) rfl) (by first | omega | (simp only [List.length_append, List.length_cons, List.length_nil]; omega) | (simp; done) | (simp; omega)) (.inl rfl) rfl rfl rfl ?_
            intro A16 C17 s18 o19
            refine AtL.assign (.inl rfl) rfl rfl ?_
            refine AtL.done ?_
            have hLl : (x.l ++ [zs10]).length = x.l.length + 1 := by rw [List.length_append]; rfl
            refine At.seq ?_
            refine At.region ?_
            refine AtL.move (.inl rfl) rfl rfl ?_
            refine AtL.indexL 0 (o19.rd (i := 1) rfl) Tryz.underlying55 tf_sz3 (.inl rfl) rfl rfl rfl rfl (by omega) ?_
            refine AtL.load (v := .int .i64 ((x.l ++ [zs10]).getD 0 0)) tf_flat3 (.inl rfl) rfl rfl (Rd.cell0 (o19.rd (i := 1) rfl) (getD_some 0 (by omega)) rfl) ?_
            refine AtL.assign (.inl rfl) rfl rfl ?_
            refine AtL.done ?_
            refine At.seq ?_
            refine At.seq ?_
            refine At.region ?_
            refine AtL.move (.inl rfl) rfl rfl ?_
            refine AtL.lenL Tryz.underlying55 (.inl rfl) rfl rfl ?_
            refine AtL.move (.inl rfl) rfl rfl ?_
            refine AtL.done ?_
            refine At.block ?_
            refine At.loop2 (fun (i2 : Nat) (z2 : Int) => [(7, .int .i64 z2), (48, .slice A16 (x.l ++ [zs10]).length C17), (49, .int .i64 ((x.l ++ [zs10]).length : Int)), (50, .int .i64 (i2 : Int))]) (fun (i2 : Nat) (z2 : Int) => s14 :: s18 :: [(b1, .cells #[.int .i64 id, .int .i64 flags, .slice Aq qs.length Cq, .slice Aa an.length Ca, .slice An ns.length Cn, .slice Ar ar.length Cr] 84 (0, 0))] :: H) (fun (i2 : Nat) (z2 : Int) => i2 ≤ (x.l ++ [zs10]).length ∧ z2 ∈ (x.l ++ [zs10] : List Int) ∧ ∀ j, j < i2 → z2 ≤ (x.l ++ [zs10] : List Int).getD j 0) (fun (i2 : Nat) (z2 : Int) => (x.l ++ [zs10]).length - i2) 0 ((x.l ++ [zs10]).getD 0 0) (⟨Nat.zero_le _, getD_mem (by first | omega | simp), fun j hj => absurd hj (by omega)⟩) ⟨rfl, rfl, rfl, rfl, trivial⟩ rfl ?_
            rintro i2 z2 ⟨hi2, hz2, hm2⟩ ihL2
            refine At.seq ?_
            refine At.region ?_
            refine AtL.lss (.inl rfl) rfl rfl rfl ?_
            refine AtL.done ?_
            refine At.seq ?_
            refine At.cond rfl ?_ ?_
            · intro hc4
              have hc4 : (i2 : Int) < ((x.l ++ [zs10]).length : Int) := of_decide_eq_true hc4
              refine At.skip ?_
              refine At.seq ?_
              refine At.block ?_
              refine At.seq ?_
              refine At.region ?_
              refine AtL.indexL i2 (o19.rd (i := 1) rfl) Tryz.underlying55 tf_sz3 (.inl rfl) rfl rfl rfl rfl (by omega) ?_
              refine AtL.load (v := .int .i64 ((x.l ++ [zs10]).getD i2 0)) tf_flat3 (.inl rfl) rfl rfl (Rd.cell0 (o19.rd (i := 1) rfl) (getD_some 0 (by omega)) rfl) ?_
              refine AtL.assign (.inl rfl) rfl rfl ?_
              refine AtL.done ?_
              refine At.region ?_
              refine AtL.move (.inl rfl) rfl rfl ?_
              refine AtL.move (.inl rfl) rfl rfl ?_
              refine AtL.minZ (z := min z2 ((x.l ++ [zs10]).getD i2 0)) (.inl rfl) rfl rfl rfl (by omega) ?_
              refine AtL.assign (.inl rfl) rfl rfl ?_
              refine AtL.done ?_
              refine At.inBlock ?_
              refine At.region ?_
              refine AtL.add (z := (i2 : Int) + 1) (.inl rfl) rfl rfl rfl (w64 (by omega) (by omega)) ?_
              refine AtL.move (.inl rfl) rfl rfl ?_
              refine AtL.done ?_
              refine ihL2 (i2 + 1) (min z2 ((x.l ++ [zs10]).getD i2 0)) (⟨by omega, min_mem hz2 (getD_mem (by omega)), fun j hj => by rcases Nat.lt_or_ge j i2 with h9 | h9; have := hm2 j h9; omega; obtain rfl : j = i2 := (by omega); omega⟩) (by omega) _ ?_
              exact ⟨(by first | rfl | exact slLen (by simp []) | exact intEq (by omega) | exact intEq (by simp []) | exact slLen (by simp []; omega)), rfl, rfl, (by first | rfl | exact slLen (by simp []) | exact intEq (by omega) | exact intEq (by simp []) | exact slLen (by simp []; omega)), trivial⟩
            · intro hc4
              have hc4 : ¬ ((i2 : Int) < ((x.l ++ [zs10]).length : Int)) := of_decide_eq_false hc4
              refine At.exit rfl ?_
              refine At.seq ?_
              refine At.region ?_
              refine AtL.move (.inl rfl) rfl rfl ?_
              refine AtL.assign (.inl rfl) rfl rfl ?_
              refine AtL.done ?_
              refine At.pick (H' := H) [] 3 rfl rfl ?_
              exact At.ret Tryz.func40 rfl rfl (⟨_, rfl, .inl ⟨by omega, [zs10], .inr ⟨zs10, hz11, hz12, rfl⟩, .inl (hc3.imp (fun h8 => h8) fun h9 => List.eq_nil_of_length_eq_zero (by omega)), hx ▸ hz2, by rw [← hx]; exact all_getD (d := 0) fun j hj => hm2 j (by omega)⟩, rfl⟩)
          · intro hc3
            have hc3 : ¬ ((((codeF flags) : Int) = 3) ∨ ((x.l.length : Int) = 0)) := of_decide_eq_false hc3
            refine At.skip ?_
            refine At.seq ?_
            refine At.region ?_
            refine AtL.move (.inl rfl) rfl rfl ?_
            refine AtL.indexL 0 (x.own.rd (i := 0) rfl) Tryz.underlying55 tf_sz3 (.inl rfl) rfl rfl rfl rfl (by omega) ?_
            refine AtL.load (v := .int .i64 (x.l.getD 0 0)) tf_flat3 (.inl rfl) rfl rfl (Rd.cell0 (x.own.rd (i := 0) rfl) (getD_some 0 (by omega)) rfl) ?_
            refine AtL.assign (.inl rfl) rfl rfl ?_
            refine AtL.done ?_
            refine At.seq ?_
            refine At.seq ?_
            refine At.region ?_
            refine AtL.move (.inl rfl) rfl rfl ?_
            refine AtL.lenL Tryz.underlying55 (.inl rfl) rfl rfl ?_
            refine AtL.move (.inl rfl) rfl rfl ?_
            refine AtL.done ?_
            refine At.block ?_
            refine At.loop2 (fun (i2 : Nat) (z2 : Int) => [(7, .int .i64 z2), (48, .slice x.A x.l.length x.C), (49, .int .i64 (x.l.length : Int)), (50, .int .i64 (i2 : Int))]) (fun (i2 : Nat) (z2 : Int) => x.s :: [(b1, .cells #[.int .i64 id, .int .i64 flags, .slice Aq qs.length Cq, .slice Aa an.length Ca, .slice An ns.length Cn, .slice Ar ar.length Cr] 84 (0, 0))] :: H) (fun (i2 : Nat) (z2 : Int) => i2 ≤ (x.l).length ∧ z2 ∈ (x.l : List Int) ∧ ∀ j, j < i2 → z2 ≤ (x.l : List Int).getD j 0) (fun (i2 : Nat) (z2 : Int) => (x.l).length - i2) 0 (x.l.getD 0 0) (⟨Nat.zero_le _, getD_mem (by first | omega | simp), fun j hj => absurd hj (by omega)⟩) ⟨rfl, rfl, rfl, rfl, trivial⟩ rfl ?_
            rintro i2 z2 ⟨hi2, hz2, hm2⟩ ihL2
            refine At.seq ?_
            refine At.region ?_
            refine AtL.lss (.inl rfl) rfl rfl rfl ?_
            refine AtL.done ?_
            refine At.seq ?_
            refine At.cond rfl ?_ ?_
            · intro hc4
              have hc4 : (i2 : Int) < (x.l.length : Int) := of_decide_eq_true hc4
              refine At.skip ?_
              refine At.seq ?_
              refine At.block ?_
              refine At.seq ?_
              refine At.region ?_
              refine AtL.indexL i2 (x.own.rd (i := 0) rfl) Tryz.underlying55 tf_sz3 (.inl rfl) rfl rfl rfl rfl (by omega) ?_
              refine AtL.load (v := .int .i64 (x.l.getD i2 0)) tf_flat3 (.inl rfl) rfl rfl (Rd.cell0 (x.own.rd (i := 0) rfl) (getD_some 0 (by omega)) rfl) ?_
              refine AtL.assign (.inl rfl) rfl rfl ?_
              refine AtL.done ?_
              refine At.region ?_
              refine AtL.move (.inl rfl) rfl rfl ?_
              refine AtL.move (.inl rfl) rfl rfl ?_
              refine AtL.minZ (z := min z2 (x.l.getD i2 0)) (.inl rfl) rfl rfl rfl (by omega) ?_
              refine AtL.assign (.inl rfl) rfl rfl ?_
              refine AtL.done ?_
              refine At.inBlock ?_
              refine At.region ?_
              refine AtL.add (z := (i2 : Int) + 1) (.inl rfl) rfl rfl rfl (w64 (by omega) (by omega)) ?_
              refine AtL.move (.inl rfl) rfl rfl ?_
              refine AtL.done ?_
              refine ihL2 (i2 + 1) (min z2 (x.l.getD i2 0)) (⟨by omega, min_mem hz2 (getD_mem (by omega)), fun j hj => by rcases Nat.lt_or_ge j i2 with h9 | h9; have := hm2 j h9; omega; obtain rfl : j = i2 := (by omega); omega⟩) (by omega) _ ?_
              exact ⟨(by first | rfl | exact slLen (by simp []) | exact intEq (by omega) | exact intEq (by simp []) | exact slLen (by simp []; omega)), rfl, rfl, (by first | rfl | exact slLen (by simp []) | exact intEq (by omega) | exact intEq (by simp []) | exact slLen (by simp []; omega)), trivial⟩
            · intro hc4
              have hc4 : ¬ ((i2 : Int) < (x.l.length : Int)) := of_decide_eq_false hc4
              refine At.exit rfl ?_
              refine At.seq ?_
              refine At.region ?_
              refine AtL.move (.inl rfl) rfl rfl ?_
              refine AtL.assign (.inl rfl) rfl rfl ?_
              refine AtL.done ?_
              refine At.pick (H' := H) [] 2 rfl rfl ?_
              exact At.ret Tryz.func40 rfl rfl (⟨_, rfl, .inl ⟨by omega, [], .inl rfl, .inr rfl, by rw [List.append_nil, ← hx]; exact hz2, by rw [List.append_nil, ← hx]; exact all_getD (d := 0) fun j hj => hm2 j (by omega)⟩, rfl⟩)
end Go.Proofs.YtlkdmbpbjhjkfaaGreatDoor
namespace Go.Proofs.YtlkdmbpbjhjkfaaGreatDoor
set_option linter.unusedVariables false
set_option linter.unusedSimpArgs false
set_option maxRecDepth 100000
def F516 : List Fld := [(CTN16, MED16), (CCN16, ([109, 97, 120, 45, 97, 103, 101, 61, 53] : List UInt8))]
def R516 : RespV := ⟨200, F516, List.replicate 12 0, true⟩
def a12B : List UInt8 := respB R516
theorem F5_eq : ansFs 5 = F516 := by decide +kernel
theorem ans12 : ansF (List.replicate 12 0) 5 true = (a12B, 0) ∧ readF a12B 0 = (⟨200, F516, List.replicate 12 0, true⟩, (a12B.length : Int), 0) := by
  have h := ans_good (b := List.replicate 12 0) (age := 5) (kp := true) (by decide) (by decide) (by decide) (by decide)
  rw [F5_eq] at h
  exact h
theorem ans11 : ansF (List.replicate 11 0) 5 true = ([], 4) := ans_4 (by decide)
theorem a12B_len : a12B.length ≤ 4294967280 := by decide +kernel
theorem code0 : codeF 0 = 0 := by decide +kernel
theorem eqField_run (x y : Fld) (ox oy : Operand) (w : World) : (do eqGuard .eql 78 ox oy (tyField.val x) (tyField.val y); binOp .eql 78 (tyField.val x) (tyField.val y) : Sem Value).run Tryz.prog w = .ok (.bool (decide (x = y))) w := by
  obtain ⟨a, c⟩ := x
  obtain ⟨d, e⟩ := y
  have hf : (Tryz.prog.fieldsOf 78).toList = [{ name := "Name", type := 9, offset := 0, embedded := false, tag := "", pkgPath := "", byteOffset := 0 }, { name := "Value", type := 9, offset := 1, embedded := false, tag := "", pkgPath := "", byteOffset := 16 }] := by kernel_rfl
  have hs : ∀ (l m : List UInt8) w, (Op.equalIn 9999 9 (str l) (str m)).run Tryz.prog w = .ok (decide (l = m)) w := fun l m w => by
    rw [str, str, run_equalIn_string w 9998 9 _ _ Tryz.underlying9, ba_toList, ba_toList, beq_dec]
  have p0 : ∀ (l m : List UInt8) w, (part 9 #[str l, str m] 0).run Tryz.prog w = .ok (str l) w := fun l m w => by simp [part, Tryz.isAgg9]
  have p1 : ∀ (l m : List UInt8) w, (part 9 #[str l, str m] 1).run Tryz.prog w = .ok (str m) w := fun l m w => by simp [part, Tryz.isAgg9]
  have he : Tryz.prog.eqGuardType Tryz.prog.depth 78 = false := by kernel_rfl
  have hu : Tryz.prog.underlying 78 = some (.struct (Tryz.prog.fieldsOf 78)) := by kernel_rfl
  have hst : Tryz.prog.stoodInHeld 78 = false := by kernel_rfl
  simp only [tyField, Sem.run_bind, run_eqGuard_agg w .eql 78 ox oy _ _ he, Result.andThen_ok, run_eql_struct, run_equalIn_agg w 9999 78 _ _ hu hst, hf, Op.eqFields]
  by_cases h1 : a = d
  · by_cases h2 : c = e
    · simp [p0, p1, hs, h1, h2]
    · simp [p0, p1, hs, h1, h2]
  · simp [p0, p1, hs, h1]
set_option maxHeartbeats 1000000 in
theorem dohknown_ok {w0 : World} {base : Nat} {H : List Seg} (T : Tabs w0 base) (ET : ErrTab w0 base) (T10 : Tab10 w0 base) :
    SCalls Tryz.prog 10 [] w0 base (H) (fun v H' => v = .bool true ∧ H' = H) := by
  refine SCalls.of_walk (n := 159) Tryz.func10 rfl rfl rfl fun cs => ?_
  refine At.seq ?_
  refine At.region ?_
  refine AtL.assign (.inl rfl) rfl rfl ?_
  refine AtL.done ?_
  refine At.seq ?_
  refine At.region ?_
  refine AtL.call tf_body35 (.inl rfl) rfl rfl ((path_ok (t := [47, 97]) (by decide) T).mono (fun v H' h => by rw [show Lib.cut [47, 97] [63] = ([47, 97], [], false) by decide +kernel] at h; exact h)) ?_
  rintro _ _ ⟨rfl, hHq⟩
  obtain rfl := hHq.symm
  refine AtL.move (.inl rfl) rfl rfl ?_
  refine AtL.extract (.inl rfl) rfl rfl rfl ?_
  refine AtL.extract (.inl rfl) rfl rfl rfl ?_
  refine AtL.assign (.inl rfl) rfl rfl ?_
  refine AtL.assign (.inl rfl) rfl rfl ?_
  refine AtL.done ?_
  refine At.seq ?_
  refine At.region ?_
  refine AtL.call tf_body35 (.inl rfl) rfl rfl ((path_ok (t := [63]) (by decide) T).mono (fun v H' h => by rw [show Lib.cut [63] [63] = ([], [], true) by decide +kernel] at h; exact h)) ?_
  rintro _ _ ⟨rfl, hHq⟩
  obtain rfl := hHq.symm
  refine AtL.move (.inl rfl) rfl rfl ?_
  refine AtL.extract (.inl rfl) rfl rfl rfl ?_
  refine AtL.extract (.inl rfl) rfl rfl rfl ?_
  refine AtL.assign (.inl rfl) rfl rfl ?_
  refine AtL.assign (.inl rfl) rfl rfl ?_
  refine AtL.done ?_
  refine At.seq ?_
  refine At.region ?_
  refine AtL.call tf_body37 (.inl rfl) rfl rfl (get16k (m := GETM) (m' := [71, 69, 84]) (t := DNSQ) rfl) ?_
  rintro _ _ ⟨⟨A1, C2, l3, s4, o5⟩, hx6, rfl, rfl⟩
  obtain rfl : HO16 = l3 := hx6.symm
  refine AtL.call tf_body36 (.inl rfl) rfl rfl (ask_kn (Ab := none) (Cb := 0) (body := []) (m := GETM) (t := DNSQ) (fs := HO16) (askK1 HO16) (o5.rd (i := 0) rfl) Rd.nil_ (by decide) (by decide) (by decide) (by decide) T) ?_
  rintro _ _ ⟨⟨A7, C8, l9, s10, o11⟩, hx12, rfl, rfl⟩
  obtain rfl : ([] : List UInt8) = l9 := hx12.symm
  refine AtL.move (.inl rfl) rfl rfl ?_
  refine AtL.extract (.inl rfl) rfl rfl rfl ?_
  refine AtL.extract (.inl rfl) rfl rfl rfl ?_
  refine AtL.assign (.inl rfl) rfl rfl ?_
  refine AtL.assign (.inl rfl) rfl rfl ?_
  refine AtL.done ?_
  refine At.seq ?_
  refine At.region ?_
  refine AtL.call tf_body37 (.inl rfl) rfl rfl (get16k (m := [80, 85, 84]) (m' := [80, 85, 84]) (t := DNSQ) rfl) ?_
  rintro _ _ ⟨⟨A13, C14, l15, s16, o17⟩, hx18, rfl, rfl⟩
  obtain rfl : HO16 = l15 := hx18.symm
  refine AtL.call tf_body36 (.inl rfl) rfl rfl (ask_kn (Ab := none) (Cb := 0) (body := []) (m := [80, 85, 84]) (t := DNSQ) (fs := HO16) (askK2 HO16) (o17.rd (i := 0) rfl) Rd.nil_ (by decide) (by decide) (by decide) (by decide) T) ?_
  rintro _ _ ⟨⟨A19, C20, l21, s22, o23⟩, hx24, rfl, rfl⟩
  obtain rfl : ([] : List UInt8) = l21 := hx24.symm
  refine AtL.move (.inl rfl) rfl rfl ?_
  refine AtL.extract (.inl rfl) rfl rfl rfl ?_
  refine AtL.extract (.inl rfl) rfl rfl rfl ?_
  refine AtL.assign (.inl rfl) rfl rfl ?_
  refine AtL.assign (.inl rfl) rfl rfl ?_
  refine AtL.done ?_
  refine At.seq ?_
  refine At.region ?_
  refine AtL.call tf_body37 (.inl rfl) rfl rfl (get16k (m := GETM) (m' := [71, 69, 84]) (t := QAA) rfl) ?_
  rintro _ _ ⟨⟨A25, C26, l27, s28, o29⟩, hx30, rfl, rfl⟩
  obtain rfl : HO16 = l27 := hx30.symm
  refine AtL.call tf_body36 (.inl rfl) rfl rfl (ask_kn (Ab := none) (Cb := 0) (body := []) (m := GETM) (t := QAA) (fs := HO16) (askK3 HO16) (o29.rd (i := 0) rfl) Rd.nil_ (by decide) (by decide) (by decide) (by decide) T) ?_
  rintro _ _ ⟨⟨A31, C32, l33, s34, o35⟩, hx36, rfl, rfl⟩
  obtain rfl : ([] : List UInt8) = l33 := hx36.symm
  refine AtL.move (.inl rfl) rfl rfl ?_
  refine AtL.extract (.inl rfl) rfl rfl rfl ?_
  refine AtL.extract (.inl rfl) rfl rfl rfl ?_
  refine AtL.assign (.inl rfl) rfl rfl ?_
  refine AtL.assign (.inl rfl) rfl rfl ?_
  refine AtL.done ?_
  refine At.seq ?_
  refine At.joinQ (fun E2 H2 => Sub [(1, str [47, 97]), (2, str []), (3, str []), (4, str []), (6, .int .i64 400), (8, .int .i64 405), (10, .int .i64 400), (12, .int .i64 415)] E2 ∧ H2 = s34 :: s28 :: s22 :: s16 :: s10 :: s4 :: H) (fun J => ?_) ?_
  · skip
    refine At.drawM (n := 3) (fs := [0, 1]) (pv := []) tf_mixed (by kernel_rfl) (by kernel_rfl) (by kernel_rfl) ?_
    refine ⟨trivial, List.cons_ne_nil _ _, by kernel_rfl, by kernel_rfl, ⟨_, rfl, rfl, rfl, _, Do.call tf_body37 rfl (get16k (m := POSTM) (m' := [80, 79, 83, 84]) (t := DNSQ) rfl), ?_⟩, ⟨_, rfl, rfl, rfl, _, Do.makeSlice (n := 12) (c := 12) tf_el22 (by decide) rfl rfl (by omega) (by omega), ?_⟩, trivial⟩
    · skip
      rintro _ _ ⟨⟨A53, C54, l55, s56, o57⟩, hx58, rfl, rfl⟩
      obtain rfl : HO16 = l55 := hx58.symm
      refine ⟨[], [1], rfl, ?_⟩
      refine ⟨trivial, List.cons_ne_nil _ _, by kernel_rfl, by kernel_rfl, ⟨_, rfl, rfl, rfl, _, Do.makeSlice (n := 12) (c := 12) tf_el22 (by decide) rfl rfl (by omega) (by omega), ?_⟩, trivial⟩
      rintro _ _ ⟨A63, s64, o65, q66, rfl, rfl⟩
      refine ⟨[], [2], rfl, ?_⟩
      refine ⟨trivial, List.cons_ne_nil _ _, by kernel_rfl, by kernel_rfl, ⟨_, rfl, rfl, rfl, _, Do.call tf_body36 rfl (ask_kn (m := POSTM) (t := DNSQ) (fs := HO16) (askK4 (List.replicate 12 (0 : UInt8))) (o57.rd (i := 1) rfl) (o65.rd (i := 0) rfl) (by decide) (by decide) (by decide) (by decide) T), ?_⟩, trivial⟩
      rintro _ _ ⟨⟨A67, C68, l69, s70, o71⟩, hx72, rfl, rfl⟩
      obtain rfl : ([] : List UInt8) = l69 := hx72.symm
      refine ⟨[(3, .tuple #[.slice A67 ([] : List UInt8).length C68, .int .i64 415]), (4, .slice A67 ([] : List UInt8).length C68), (5, .int .i64 415), (6, .slice A67 ([] : List UInt8).length C68), (7, .int .i64 415)], [], rfl, ?_⟩
      refine ⟨⟨.inr ⟨_, rfl, rfl, .inl ⟨rfl, Do.move rfl⟩⟩, .inr ⟨_, rfl, rfl, .inl ⟨rfl, Do.extract rfl rfl⟩⟩, .inr ⟨_, rfl, rfl, .inl ⟨rfl, Do.extract rfl rfl⟩⟩, .inr ⟨_, rfl, rfl, .inl ⟨rfl, Do.assign rfl⟩⟩, .inr ⟨_, rfl, rfl, .inl ⟨rfl, Do.assign rfl⟩⟩, trivial⟩, by kernel_rfl, ?_⟩
      refine At.pick (H' := s34 :: s28 :: s22 :: s16 :: s10 :: s4 :: H) [3, 4, 5, 6, 7, 8] 9 rfl rfl ?_
      exact J _ _ ⟨⟨rfl, rfl, rfl, rfl, rfl, rfl, rfl, rfl, trivial⟩, rfl⟩
    · skip
      rintro _ _ ⟨A59, s60, o61, q62, rfl, rfl⟩
      refine ⟨[], [0], rfl, ?_⟩
      refine ⟨trivial, List.cons_ne_nil _ _, by kernel_rfl, by kernel_rfl, ⟨_, rfl, rfl, rfl, _, Do.call tf_body37 rfl (get16k (m := POSTM) (m' := [80, 79, 83, 84]) (t := DNSQ) rfl), ?_⟩, trivial⟩
      rintro _ _ ⟨⟨A73, C74, l75, s76, o77⟩, hx78, rfl, rfl⟩
      obtain rfl : HO16 = l75 := hx78.symm
      refine ⟨[], [2], rfl, ?_⟩
      refine ⟨trivial, List.cons_ne_nil _ _, by kernel_rfl, by kernel_rfl, ⟨_, rfl, rfl, rfl, _, Do.call tf_body36 rfl (ask_kn (m := POSTM) (t := DNSQ) (fs := HO16) (askK4 (List.replicate 12 (0 : UInt8))) (o77.rd (i := 0) rfl) (o61.rd (i := 1) rfl) (by decide) (by decide) (by decide) (by decide) T), ?_⟩, trivial⟩
      rintro _ _ ⟨⟨A79, C80, l81, s82, o83⟩, hx84, rfl, rfl⟩
      obtain rfl : ([] : List UInt8) = l81 := hx84.symm
      refine ⟨[(3, .tuple #[.slice A79 ([] : List UInt8).length C80, .int .i64 415]), (4, .slice A79 ([] : List UInt8).length C80), (5, .int .i64 415), (6, .slice A79 ([] : List UInt8).length C80), (7, .int .i64 415)], [], rfl, ?_⟩
      refine ⟨⟨.inr ⟨_, rfl, rfl, .inl ⟨rfl, Do.move rfl⟩⟩, .inr ⟨_, rfl, rfl, .inl ⟨rfl, Do.extract rfl rfl⟩⟩, .inr ⟨_, rfl, rfl, .inl ⟨rfl, Do.extract rfl rfl⟩⟩, .inr ⟨_, rfl, rfl, .inl ⟨rfl, Do.assign rfl⟩⟩, .inr ⟨_, rfl, rfl, .inl ⟨rfl, Do.assign rfl⟩⟩, trivial⟩, by kernel_rfl, ?_⟩
      refine At.pick (H' := s34 :: s28 :: s22 :: s16 :: s10 :: s4 :: H) [3, 4, 5, 6, 7, 8] 9 rfl rfl ?_
      exact J _ _ ⟨⟨rfl, rfl, rfl, rfl, rfl, rfl, rfl, rfl, trivial⟩, rfl⟩
  · skip
    rintro E2 H2 ⟨hsub, rfl⟩
    refine At.mono hsub ?_
    clear hsub
    refine At.seq ?_
    refine At.joinQ (fun E2 H2 => Sub [(1, str [47, 97]), (2, str []), (3, str []), (4, str []), (6, .int .i64 400), (8, .int .i64 405), (10, .int .i64 400), (12, .int .i64 415), (14, .int .i64 400)] E2 ∧ H2 = s34 :: s28 :: s22 :: s16 :: s10 :: s4 :: H) (fun J => ?_) ?_
    · skip
      refine At.drawM (n := 3) (fs := [0, 1]) (pv := []) tf_mixed (by kernel_rfl) (by kernel_rfl) (by kernel_rfl) ?_
      refine ⟨trivial, List.cons_ne_nil _ _, by kernel_rfl, by kernel_rfl, ⟨_, rfl, rfl, rfl, _, Do.call tf_body38 rfl post16_ok, ?_⟩, ⟨_, rfl, rfl, rfl, _, Do.makeSlice (n := 11) (c := 11) tf_el22 (by decide) rfl rfl (by omega) (by omega), ?_⟩, trivial⟩
      · skip
        rintro _ _ ⟨⟨A101, C102, l103, s104, o105⟩, hx106, rfl, rfl⟩
        obtain rfl : PF16 = l103 := hx106.symm
        refine ⟨[], [1], rfl, ?_⟩
        refine ⟨trivial, List.cons_ne_nil _ _, by kernel_rfl, by kernel_rfl, ⟨_, rfl, rfl, rfl, _, Do.makeSlice (n := 11) (c := 11) tf_el22 (by decide) rfl rfl (by omega) (by omega), ?_⟩, trivial⟩
        rintro _ _ ⟨A111, s112, o113, q114, rfl, rfl⟩
        refine ⟨[], [2], rfl, ?_⟩
        refine ⟨trivial, List.cons_ne_nil _ _, by kernel_rfl, by kernel_rfl, ⟨_, rfl, rfl, rfl, _, Do.call tf_body36 rfl (ask_kn (m := POSTM) (t := DNSQ) (fs := PF16) (askK5 (by decide)) (o105.rd (i := 1) rfl) (o113.rd (i := 0) rfl) (by decide) (by decide) (by decide) (by decide) T), ?_⟩, trivial⟩
        rintro _ _ ⟨⟨A115, C116, l117, s118, o119⟩, hx120, rfl, rfl⟩
        obtain rfl : ([] : List UInt8) = l117 := hx120.symm
        refine ⟨[(3, .tuple #[.slice A115 ([] : List UInt8).length C116, .int .i64 400]), (4, .slice A115 ([] : List UInt8).length C116), (5, .int .i64 400), (6, .slice A115 ([] : List UInt8).length C116), (7, .int .i64 400)], [], rfl, ?_⟩
        refine ⟨⟨.inr ⟨_, rfl, rfl, .inl ⟨rfl, Do.move rfl⟩⟩, .inr ⟨_, rfl, rfl, .inl ⟨rfl, Do.extract rfl rfl⟩⟩, .inr ⟨_, rfl, rfl, .inl ⟨rfl, Do.extract rfl rfl⟩⟩, .inr ⟨_, rfl, rfl, .inl ⟨rfl, Do.assign rfl⟩⟩, .inr ⟨_, rfl, rfl, .inl ⟨rfl, Do.assign rfl⟩⟩, trivial⟩, by kernel_rfl, ?_⟩
        refine At.pick (H' := s34 :: s28 :: s22 :: s16 :: s10 :: s4 :: H) [3, 4, 5, 6, 7, 8] 9 rfl rfl ?_
        exact J _ _ ⟨⟨rfl, rfl, rfl, rfl, rfl, rfl, rfl, rfl, rfl, trivial⟩, rfl⟩
      · skip
        rintro _ _ ⟨A107, s108, o109, q110, rfl, rfl⟩
        refine ⟨[], [0], rfl, ?_⟩
        refine ⟨trivial, List.cons_ne_nil _ _, by kernel_rfl, by kernel_rfl, ⟨_, rfl, rfl, rfl, _, Do.call tf_body38 rfl post16_ok, ?_⟩, trivial⟩
        rintro _ _ ⟨⟨A121, C122, l123, s124, o125⟩, hx126, rfl, rfl⟩
        obtain rfl : PF16 = l123 := hx126.symm
        refine ⟨[], [2], rfl, ?_⟩
        refine ⟨trivial, List.cons_ne_nil _ _, by kernel_rfl, by kernel_rfl, ⟨_, rfl, rfl, rfl, _, Do.call tf_body36 rfl (ask_kn (m := POSTM) (t := DNSQ) (fs := PF16) (askK5 (by decide)) (o125.rd (i := 0) rfl) (o109.rd (i := 1) rfl) (by decide) (by decide) (by decide) (by decide) T), ?_⟩, trivial⟩
        rintro _ _ ⟨⟨A127, C128, l129, s130, o131⟩, hx132, rfl, rfl⟩
        obtain rfl : ([] : List UInt8) = l129 := hx132.symm
        refine ⟨[(3, .tuple #[.slice A127 ([] : List UInt8).length C128, .int .i64 400]), (4, .slice A127 ([] : List UInt8).length C128), (5, .int .i64 400), (6, .slice A127 ([] : List UInt8).length C128), (7, .int .i64 400)], [], rfl, ?_⟩
        refine ⟨⟨.inr ⟨_, rfl, rfl, .inl ⟨rfl, Do.move rfl⟩⟩, .inr ⟨_, rfl, rfl, .inl ⟨rfl, Do.extract rfl rfl⟩⟩, .inr ⟨_, rfl, rfl, .inl ⟨rfl, Do.extract rfl rfl⟩⟩, .inr ⟨_, rfl, rfl, .inl ⟨rfl, Do.assign rfl⟩⟩, .inr ⟨_, rfl, rfl, .inl ⟨rfl, Do.assign rfl⟩⟩, trivial⟩, by kernel_rfl, ?_⟩
        refine At.pick (H' := s34 :: s28 :: s22 :: s16 :: s10 :: s4 :: H) [3, 4, 5, 6, 7, 8] 9 rfl rfl ?_
        exact J _ _ ⟨⟨rfl, rfl, rfl, rfl, rfl, rfl, rfl, rfl, rfl, trivial⟩, rfl⟩
    · skip
      rintro E2 H2 ⟨hsub, rfl⟩
      refine At.mono hsub ?_
      clear hsub
      refine At.seq ?_
      refine At.region ?_
      refine AtL.makeSlice (n := 12) (c := 12) tf_el22 (by decide) (.inl rfl) rfl rfl rfl (by omega) (by omega) ?_
      intro A133 s134 o135 q136
      refine AtL.call tf_body14 (.inl rfl) rfl rfl (answer_kn (b := List.replicate 12 (0 : UInt8)) ans12.1 (o135.rd (i := 0) rfl) (by simp) T10) ?_
      rintro _ _ ⟨⟨A137, C138, l139, s140, o141⟩, hx142, rfl, rfl⟩
      obtain rfl : (a12B : List UInt8) = l139 := hx142.symm
      refine AtL.move (.inl rfl) rfl rfl ?_
      refine AtL.extract (.inl rfl) rfl rfl rfl ?_
      refine AtL.extract (.inl rfl) rfl rfl rfl ?_
      refine AtL.assign (.inl rfl) rfl rfl ?_
      refine AtL.assign (.inl rfl) rfl rfl ?_
      refine AtL.done ?_
      refine At.seq ?_
      refine At.region ?_
      refine AtL.makeSlice (n := 11) (c := 11) tf_el22 (by decide) (.inl rfl) rfl rfl rfl (by omega) (by omega) ?_
      intro A143 s144 o145 q146
      refine AtL.call tf_body14 (.inl rfl) rfl rfl (answer_kn (b := List.replicate 11 (0 : UInt8)) ans11 (o145.rd (i := 0) rfl) (by simp) T10) ?_
      rintro _ _ ⟨⟨A147, C148, l149, s150, o151⟩, hx152, rfl, rfl⟩
      obtain rfl : ([] : List UInt8) = l149 := hx152.symm
      refine AtL.move (.inl rfl) rfl rfl ?_
      refine AtL.extract (.inl rfl) rfl rfl rfl ?_
      refine AtL.extract (.inl rfl) rfl rfl rfl ?_
      refine AtL.assign (.inl rfl) rfl rfl ?_
      refine AtL.assign (.inl rfl) rfl rfl ?_
      refine AtL.done ?_
      refine At.seq ?_
      refine At.region ?_
      refine AtL.move (.inl rfl) rfl rfl ?_
      refine AtL.call tf_body39 (.inl rfl) rfl rfl (read_kn (b := (a12B : List UInt8)) ans12.2 (o141.rd (i := 2) rfl) a12B_len T ET T10) ?_
      rintro _ _ ⟨⟨A153, C154, l155, s156, o157⟩, ⟨A158, C159, l160, s161, o162⟩, hx163, hx164, rfl, rfl⟩
      obtain rfl : F516 = l155 := hx163.symm
      obtain rfl : (List.replicate 12 (0 : UInt8)) = l160 := hx164.symm
      refine AtL.move (.inl rfl) rfl rfl ?_
      refine AtL.extract (.inl rfl) rfl rfl rfl ?_
      refine AtL.extract (.inl rfl) rfl rfl rfl ?_
      refine AtL.extract (.inl rfl) rfl rfl rfl ?_
      refine AtL.alloc tf_zero74 (cs := #[.int .i64 0, .slice none 0 0, .slice none 0 0, .bool false]) rfl (.inl rfl) rfl ?_
      intro b165
      refine AtL.store (H' := [(b165, .cells #[.int .i64 200, .slice A153 F516.length C154, .slice A158 (List.replicate 12 (0 : UInt8)).length C159, .bool true] 74 (0, 0))] :: s156 :: s161 :: s150 :: s144 :: s140 :: s134 :: s34 :: s28 :: s22 :: s16 :: s10 :: s4 :: H) 0 0 tf_sz74 (.inl rfl) rfl rfl rfl rfl rfl rfl rfl rfl rfl ?_
      refine AtL.assign (.inl rfl) rfl rfl ?_
      refine AtL.assign (.inl rfl) rfl rfl ?_
      refine AtL.done ?_
      refine At.seq ?_
      refine At.region ?_
      refine AtL.move (.inl rfl) rfl rfl ?_
      refine AtL.eqs (a := [47, 97]) (b := [47, 97]) (.inl rfl) rfl rfl rfl ?_
      refine AtL.move (.inl rfl) rfl rfl ?_
      refine AtL.join 3 (E' := [(81, .bool (decide (([] : List UInt8) = []))), (3, str []), (4, str []), (6, .int .i64 400), (8, .int .i64 405), (10, .int .i64 400), (12, .int .i64 415), (14, .int .i64 400), (16, .int .i64 0), (18, .int .i64 4), (19, .pointer (some ⟨b165, 0, none⟩)), (21, .int .i64 0)]) (H' := [(b165, .cells #[.int .i64 200, .slice A153 F516.length C154, .slice A158 (List.replicate 12 (0 : UInt8)).length C159, .bool true] 74 (0, 0))] :: s156 :: s161 :: s150 :: s144 :: s140 :: s134 :: s34 :: s28 :: s22 :: s16 :: s10 :: s4 :: H) (fun J => ?_) ?_
      · refine AtL.split (t := 78) rfl ?_ ?_
        · intro hs78
          have hs78 : ([47, 97] : List UInt8) = [47, 97] := of_decide_eq_true hs78
          refine AtL.move (.inr ⟨_, _, _, rfl, rfl, rfl, rfl⟩) rfl rfl ?_
          refine AtL.eqs (a := []) (b := []) (.inr ⟨_, _, _, rfl, rfl, rfl, rfl⟩) rfl rfl rfl ?_
          refine AtL.pickT (.inl rfl) rfl rfl rfl ?_
          exact J _ (by exact ⟨(boolIs (by clear J; first | (simp [hs78]; done) | (simp_all; done) | grind)), rfl, rfl, rfl, rfl, rfl, rfl, rfl, rfl, rfl, rfl, rfl, trivial⟩)
        · intro hs78
          exact Bool.noConfusion (hs78.symm.trans (decide_eq_true rfl))
      · skip
        refine AtL.move (.inl rfl) rfl rfl ?_
        refine AtL.join 3 (E' := [(85, .bool (decide (([] : List UInt8) = []))), (4, str []), (6, .int .i64 400), (8, .int .i64 405), (10, .int .i64 400), (12, .int .i64 415), (14, .int .i64 400), (16, .int .i64 0), (18, .int .i64 4), (19, .pointer (some ⟨b165, 0, none⟩)), (21, .int .i64 0)]) (H' := [(b165, .cells #[.int .i64 200, .slice A153 F516.length C154, .slice A158 (List.replicate 12 (0 : UInt8)).length C159, .bool true] 74 (0, 0))] :: s156 :: s161 :: s150 :: s144 :: s140 :: s134 :: s34 :: s28 :: s22 :: s16 :: s10 :: s4 :: H) (fun J => ?_) ?_
        · refine AtL.split (t := 82) rfl ?_ ?_
          · intro hs82
            have hs82 : ([] : List UInt8) = [] := of_decide_eq_true hs82
            refine AtL.move (.inr ⟨_, _, _, rfl, rfl, rfl, rfl⟩) rfl rfl ?_
            refine AtL.eqs (a := []) (b := []) (.inr ⟨_, _, _, rfl, rfl, rfl, rfl⟩) rfl rfl rfl ?_
            refine AtL.pickT (.inl rfl) rfl rfl rfl ?_
            exact J _ (by exact ⟨(boolIs (by clear J; first | (simp [hs82]; done) | (simp_all; done) | grind)), rfl, rfl, rfl, rfl, rfl, rfl, rfl, rfl, rfl, rfl, trivial⟩)
          · intro hs82
            exact Bool.noConfusion (hs82.symm.trans (decide_eq_true rfl))
        · skip
          refine AtL.move (.inl rfl) rfl rfl ?_
          refine AtL.join 3 (E' := [(89, .bool (decide (([] : List UInt8) = []))), (6, .int .i64 400), (8, .int .i64 405), (10, .int .i64 400), (12, .int .i64 415), (14, .int .i64 400), (16, .int .i64 0), (18, .int .i64 4), (19, .pointer (some ⟨b165, 0, none⟩)), (21, .int .i64 0)]) (H' := [(b165, .cells #[.int .i64 200, .slice A153 F516.length C154, .slice A158 (List.replicate 12 (0 : UInt8)).length C159, .bool true] 74 (0, 0))] :: s156 :: s161 :: s150 :: s144 :: s140 :: s134 :: s34 :: s28 :: s22 :: s16 :: s10 :: s4 :: H) (fun J => ?_) ?_
          · refine AtL.split (t := 86) rfl ?_ ?_
            · intro hs86
              have hs86 : ([] : List UInt8) = [] := of_decide_eq_true hs86
              refine AtL.move (.inr ⟨_, _, _, rfl, rfl, rfl, rfl⟩) rfl rfl ?_
              refine AtL.eqs (a := []) (b := []) (.inr ⟨_, _, _, rfl, rfl, rfl, rfl⟩) rfl rfl rfl ?_
              refine AtL.pickT (.inl rfl) rfl rfl rfl ?_
              exact J _ (by exact ⟨(boolIs (by clear J; first | (simp [hs86]; done) | (simp_all; done) | grind)), rfl, rfl, rfl, rfl, rfl, rfl, rfl, rfl, rfl, trivial⟩)
            · intro hs86
              exact Bool.noConfusion (hs86.symm.trans (decide_eq_true rfl))
          · skip
            refine AtL.move (.inl rfl) rfl rfl ?_
            refine AtL.join 3 (E' := [(93, .bool true), (8, .int .i64 405), (10, .int .i64 400), (12, .int .i64 415), (14, .int .i64 400), (16, .int .i64 0), (18, .int .i64 4), (19, .pointer (some ⟨b165, 0, none⟩)), (21, .int .i64 0)]) (H' := [(b165, .cells #[.int .i64 200, .slice A153 F516.length C154, .slice A158 (List.replicate 12 (0 : UInt8)).length C159, .bool true] 74 (0, 0))] :: s156 :: s161 :: s150 :: s144 :: s140 :: s134 :: s34 :: s28 :: s22 :: s16 :: s10 :: s4 :: H) (fun J => ?_) ?_
            · refine AtL.split (t := 90) rfl ?_ ?_
              · intro hs90
                have hs90 : ([] : List UInt8) = [] := of_decide_eq_true hs90
                refine AtL.move (.inr ⟨_, _, _, rfl, rfl, rfl, rfl⟩) rfl rfl ?_
                refine AtL.eqi (.inr ⟨_, _, _, rfl, rfl, rfl, rfl⟩) rfl rfl rfl ?_
                refine AtL.pickT (.inl rfl) rfl rfl rfl ?_
                exact J _ (by exact ⟨rfl, rfl, rfl, rfl, rfl, rfl, rfl, rfl, rfl, trivial⟩)
              · intro hs90
                exact Bool.noConfusion (hs90.symm.trans (decide_eq_true rfl))
            · skip
              refine AtL.move (.inl rfl) rfl rfl ?_
              refine AtL.move (.inr ⟨_, _, _, rfl, rfl, rfl, rfl⟩) rfl rfl ?_
              refine AtL.eqi (.inr ⟨_, _, _, rfl, rfl, rfl, rfl⟩) rfl rfl rfl ?_
              refine AtL.pickT (.inl rfl) rfl rfl rfl ?_
              refine AtL.move (.inl rfl) rfl rfl ?_
              refine AtL.move (.inr ⟨_, _, _, rfl, rfl, rfl, rfl⟩) rfl rfl ?_
              refine AtL.eqi (.inr ⟨_, _, _, rfl, rfl, rfl, rfl⟩) rfl rfl rfl ?_
              refine AtL.pickT (.inl rfl) rfl rfl rfl ?_
              refine AtL.move (.inl rfl) rfl rfl ?_
              refine AtL.move (.inr ⟨_, _, _, rfl, rfl, rfl, rfl⟩) rfl rfl ?_
              refine AtL.eqi (.inr ⟨_, _, _, rfl, rfl, rfl, rfl⟩) rfl rfl rfl ?_
              refine AtL.pickT (.inl rfl) rfl rfl rfl ?_
              refine AtL.move (.inl rfl) rfl rfl ?_
              refine AtL.move (.inr ⟨_, _, _, rfl, rfl, rfl, rfl⟩) rfl rfl ?_
              refine AtL.eqi (.inr ⟨_, _, _, rfl, rfl, rfl, rfl⟩) rfl rfl rfl ?_
              refine AtL.pickT (.inl rfl) rfl rfl rfl ?_
              refine AtL.assign (.inl rfl) rfl rfl ?_
              refine AtL.done ?_
              refine At.seq ?_
              refine At.region ?_
              refine AtL.move (.inl rfl) rfl rfl ?_
              refine AtL.eqi (.inl rfl) rfl rfl rfl ?_
              refine AtL.move (.inl rfl) rfl rfl ?_
              refine AtL.move (.inr ⟨_, _, _, rfl, rfl, rfl, rfl⟩) rfl rfl ?_
              refine AtL.eqi (.inr ⟨_, _, _, rfl, rfl, rfl, rfl⟩) rfl rfl rfl ?_
              refine AtL.pickT (.inl rfl) rfl rfl rfl ?_
              refine AtL.move (.inl rfl) rfl rfl ?_
              refine AtL.move (.inr ⟨_, _, _, rfl, rfl, rfl, rfl⟩) rfl rfl ?_
              refine AtL.eqi (.inr ⟨_, _, _, rfl, rfl, rfl, rfl⟩) rfl rfl rfl ?_
              refine AtL.pickT (.inl rfl) rfl rfl rfl ?_
              refine AtL.move (.inl rfl) rfl rfl ?_
              refine AtL.fieldAddrB tf_fo74_0 (.inr ⟨_, _, _, rfl, rfl, rfl, rfl⟩) rfl rfl rfl ?_
              refine AtL.load tf_flat3 (.inr ⟨_, _, _, rfl, rfl, rfl, rfl⟩) rfl rfl (Cell.own 0 0 rfl rfl rfl) ?_
              refine AtL.eqi (.inr ⟨_, _, _, rfl, rfl, rfl, rfl⟩) rfl rfl rfl ?_
              refine AtL.pickT (.inl rfl) rfl rfl rfl ?_
              refine AtL.move (.inl rfl) rfl rfl ?_
              refine AtL.fieldAddrB tf_fo74_1 (.inr ⟨_, _, _, rfl, rfl, rfl, rfl⟩) rfl rfl rfl ?_
              refine AtL.load tf_flat45 (.inr ⟨_, _, _, rfl, rfl, rfl, rfl⟩) rfl rfl (Cell.own 0 0 rfl rfl rfl) ?_
              refine AtL.lenL Tryz.underlying45 (.inr ⟨_, _, _, rfl, rfl, rfl, rfl⟩) rfl rfl ?_
              refine AtL.eqi (.inr ⟨_, _, _, rfl, rfl, rfl, rfl⟩) rfl rfl rfl ?_
              refine AtL.pickT (.inl rfl) rfl rfl rfl ?_
              refine AtL.move (.inl rfl) rfl rfl ?_
              refine AtL.join 7 (E' := [(138, .bool (decide ((F516.getD 1 (([], []) : List UInt8 × List UInt8)) = (([67, 97, 99, 104, 101, 45, 67, 111, 110, 116, 114, 111, 108] : List UInt8), ([109, 97, 120, 45, 97, 103, 101, 61, 53] : List UInt8))))), (22, .bool true)]) (H' := [(b165, .cells #[.int .i64 200, .slice A153 F516.length C154, .slice A158 (List.replicate 12 (0 : UInt8)).length C159, .bool true] 74 (0, 0))] :: s156 :: s161 :: s150 :: s144 :: s140 :: s134 :: s34 :: s28 :: s22 :: s16 :: s10 :: s4 :: H) (fun J => ?_) ?_
              · refine AtL.split (t := 131) rfl ?_ ?_
                · intro hs131
                  have hs131 : (F516.length : Int) = 2 := of_decide_eq_true hs131
                  refine AtL.fieldAddrB tf_fo74_1 (.inr ⟨_, _, _, rfl, rfl, rfl, rfl⟩) rfl rfl rfl ?_
                  refine AtL.load tf_flat45 (.inr ⟨_, _, _, rfl, rfl, rfl, rfl⟩) rfl rfl (Cell.own 0 0 rfl rfl rfl) ?_
                  refine AtL.indexL 1 (o157.rd (i := 1) rfl) Tryz.underlying45 tf_sz78 (.inr ⟨_, _, _, rfl, rfl, rfl, rfl⟩) rfl rfl rfl rfl (by omega) ?_
                  refine AtL.loadE (n := 0) (o157.rd (i := 1) rfl) (getD_some (([], []) : List UInt8 × List UInt8) (by omega)) rfl tf_agg78 (.inr ⟨_, _, _, rfl, rfl, rfl, rfl⟩) rfl rfl ?_
                  refine AtL.build (cs := [str [67, 97, 99, 104, 101, 45, 67, 111, 110, 116, 114, 111, 108], str [109, 97, 120, 45, 97, 103, 101, 61, 53]]) tf_lay78 (.inr ⟨_, _, _, rfl, rfl, rfl, rfl⟩) rfl rfl rfl ?_
                  refine AtL.ofIs (Do.bin (v := .bool (decide ((F516.getD 1 (([], []) : List UInt8 × List UInt8)) = (([67, 97, 99, 104, 101, 45, 67, 111, 110, 116, 114, 111, 108] : List UInt8), ([109, 97, 120, 45, 97, 103, 101, 61, 53] : List UInt8))))) rfl rfl (fun w => eqField_run (F516.getD 1 (([], []) : List UInt8 × List UInt8)) (([67, 97, 99, 104, 101, 45, 67, 111, 110, 116, 114, 111, 108] : List UInt8), ([109, 97, 120, 45, 97, 103, 101, 61, 53] : List UInt8)) _ _ w)) (.inr ⟨_, _, _, rfl, rfl, rfl, rfl⟩) rfl ?_
                  refine AtL.pickT (.inl rfl) rfl rfl rfl ?_
                  exact J _ (by exact ⟨(boolIs (by clear J; first | (simp [hs131]; done) | (simp_all; done) | grind)), rfl, trivial⟩)
                · intro hs131
                  have hs131 : ¬ ((F516.length : Int) = 2) := of_decide_eq_false hs131
                  exfalso; revert hs131; first | decide | simp
              · skip
                refine AtL.assign (.inl rfl) rfl rfl ?_
                refine AtL.done ?_
                refine At.seq ?_
                refine At.region ?_
                refine AtL.build (cs := [str [0], .int .i64 1, .int .i64 1, .int .i64 7, str [97, 98, 99, 100]]) tf_lay80 (.inl rfl) rfl rfl rfl ?_
                refine AtL.buildSlice (cs := [str [0], .int .i64 1, .int .i64 1, .int .i64 7, str [97, 98, 99, 100]]) Tryz.underlying81 tf_zero80 tf_sz80 rfl rfl (.inl rfl) rfl rfl rfl ?_
                intro b166
                refine AtL.own1 tyRec (l := ([(([0] : List UInt8), 1, 1, 7, ([97, 98, 99, 100] : List UInt8))] : List (List UInt8 × Int × Int × Int × List UInt8))) rfl rfl (by first | decide | simp) ?_
                intro s167 o168
                refine AtL.build (cs := [.int .i64 0, .int .i64 0, .slice none 0 0, .slice (some ⟨b166, 0, none⟩) ([(([0] : List UInt8), 1, 1, 7, ([97, 98, 99, 100] : List UInt8))]).length 1, .slice none 0 0, .slice none 0 0]) tf_lay84 (.inl rfl) rfl rfl rfl ?_
                refine AtL.alloc tf_zero84 (cs := #[.int .i64 0, .int .i64 0, .slice none 0 0, .slice none 0 0, .slice none 0 0, .slice none 0 0]) rfl (.inl rfl) rfl ?_
                intro b169
                refine AtL.store (H' := [(b169, .cells #[.int .i64 0, .int .i64 0, .slice none 0 0, .slice (some ⟨b166, 0, none⟩) ([(([0] : List UInt8), 1, 1, 7, ([97, 98, 99, 100] : List UInt8))]).length 1, .slice none 0 0, .slice none 0 0] 84 (0, 0))] :: s167 :: [(b165, .cells #[.int .i64 200, .slice A153 F516.length C154, .slice A158 (List.replicate 12 (0 : UInt8)).length C159, .bool true] 74 (0, 0))] :: s156 :: s161 :: s150 :: s144 :: s140 :: s134 :: s34 :: s28 :: s22 :: s16 :: s10 :: s4 :: H) 0 0 tf_sz84 (.inl rfl) rfl rfl rfl rfl rfl rfl rfl rfl rfl ?_
                refine AtL.done ?_
                refine At.seq ?_
                refine At.region ?_
                refine AtL.call tf_body12 (.inl rfl) rfl rfl (awake16_ok T) ?_
                rintro _ _ ⟨rfl, rfl⟩
                refine AtL.move (.inl rfl) rfl rfl ?_
                refine AtL.move (.inr ⟨_, _, _, rfl, rfl, rfl, rfl⟩) rfl rfl ?_
                refine AtL.pickT (.inl rfl) rfl rfl rfl ?_
                refine AtL.move (.inl rfl) rfl rfl ?_
                refine AtL.move (.inr ⟨_, _, _, rfl, rfl, rfl, rfl⟩) rfl rfl ?_
                refine AtL.pickT (.inl rfl) rfl rfl rfl ?_
                refine AtL.move (.inl rfl) rfl rfl ?_
                refine AtL.join 4 (E' := [(153, .bool true)]) (H' := [(b169, .cells #[.int .i64 0, .int .i64 0, .slice none 0 0, .slice (some ⟨b166, 0, none⟩) ([(([0] : List UInt8), 1, 1, 7, ([97, 98, 99, 100] : List UInt8))]).length 1, .slice none 0 0, .slice none 0 0] 84 (0, 0))] :: s167 :: [(b165, .cells #[.int .i64 200, .slice A153 F516.length C154, .slice A158 (List.replicate 12 (0 : UInt8)).length C159, .bool true] 74 (0, 0))] :: s156 :: s161 :: s150 :: s144 :: s140 :: s134 :: s34 :: s28 :: s22 :: s16 :: s10 :: s4 :: H) (fun J => ?_) ?_
                · refine AtL.split (t := 149) rfl ?_ ?_
                  · intro hs149
                    have hs149 : (F516.getD 1 (([], []) : List UInt8 × List UInt8)) = (([67, 97, 99, 104, 101, 45, 67, 111, 110, 116, 114, 111, 108] : List UInt8), ([109, 97, 120, 45, 97, 103, 101, 61, 53] : List UInt8)) := of_decide_eq_true hs149
                    refine AtL.loadN (cs := [.int .i64 0, .int .i64 0, .slice none 0 0, .slice (some ⟨b166, 0, none⟩) ([(([0] : List UInt8), 1, 1, 7, ([97, 98, 99, 100] : List UInt8))]).length 1, .slice none 0 0, .slice none 0 0]) tf_agg84 (.inr ⟨_, _, _, rfl, rfl, rfl, rfl⟩) rfl rfl rfl (cellsOwn 0 0 0 rfl rfl rfl) ?_
                    refine AtL.call tf_body40 (.inr ⟨_, _, _, rfl, rfl, rfl, rfl⟩) rfl rfl (age_ok (id := 0) (flags := 0) (qs := []) (an := [(([0] : List UInt8), 1, 1, 7, ([97, 98, 99, 100] : List UInt8))]) (ns := []) (ar := []) Rd.nil_ (o168.rd (i := 1) rfl) Rd.nil_ Rd.nil_ (fun x hx => absurd hx (by simp)) (by decide)) ?_
                    rintro _ _ ⟨za170, rfl, hza171, rfl⟩
                    obtain rfl : 7 = za170 := by
                      have h9 := hza171
                      rw [code0] at h9
                      exact h9.one.symm
                    refine AtL.eqi (.inr ⟨_, _, _, rfl, rfl, rfl, rfl⟩) rfl rfl rfl ?_
                    refine AtL.pickT (.inl rfl) rfl rfl rfl ?_
                    exact J _ (by exact ⟨rfl, trivial⟩)
                  · intro hs149
                    have hs149 : ¬ ((F516.getD 1 (([], []) : List UInt8 × List UInt8)) = (([67, 97, 99, 104, 101, 45, 67, 111, 110, 116, 114, 111, 108] : List UInt8), ([109, 97, 120, 45, 97, 103, 101, 61, 53] : List UInt8))) := of_decide_eq_false hs149
                    exfalso; revert hs149; first | decide | simp
                · skip
                  refine AtL.move (.inl rfl) rfl rfl ?_
                  refine AtL.build (cs := [.int .i64 0, .int .i64 0, .slice none 0 0, .slice none 0 0, .slice none 0 0, .slice none 0 0]) tf_lay84 (.inr ⟨_, _, _, rfl, rfl, rfl, rfl⟩) rfl rfl rfl ?_
                  refine AtL.call tf_body40 (.inr ⟨_, _, _, rfl, rfl, rfl, rfl⟩) rfl rfl (age_ok (id := 0) (flags := 0) (qs := []) (an := []) (ns := []) (ar := []) Rd.nil_ Rd.nil_ Rd.nil_ Rd.nil_ (fun x hx => absurd hx (by simp)) (by decide)) ?_
                  rintro _ _ ⟨za172, rfl, hza173, rfl⟩
                  obtain rfl : 0 = za172 := by
                    have h9 := hza173
                    rw [code0] at h9
                    exact h9.none.symm
                  refine AtL.eqi (.inr ⟨_, _, _, rfl, rfl, rfl, rfl⟩) rfl rfl rfl ?_
                  refine AtL.pickT (.inl rfl) rfl rfl rfl ?_
                  refine AtL.assign (.inl rfl) rfl rfl ?_
                  refine AtL.done ?_
                  refine At.pick (H' := H) [] 15 rfl rfl ?_
                  exact At.ret Tryz.func10 rfl rfl (⟨rfl, rfl⟩)
end Go.Proofs.YtlkdmbpbjhjkfaaGreatDoor
namespace Go.Proofs.YtlkdmbpbjhjkfaaGreatDoor
set_option linter.unusedVariables false
theorem returns_listed {H : Type} {enc : TypeId × Value → H} {a : Assume} {C : Checked} {os : Os} {f : FuncId} {fn : Func} {s : ChangeSpec} {conds : List PathCond} {apart fresh handsOn again : Bool} {X : World → Array Value → Prop}
    (hX : ∀ (w w' : World) (args : Array Value), w.heap = w'.heap → X w args → X w' args) (own : ownKnob C.prog.godebug = none) (started : os.Started) (noInit : C.prog.inits.idxOf? f = none) (hfn : C.prog.funcs[f]? = some fn)
    (wit : ∃ (w : World) (tape : Tape) (i : Input), w.os = os ∧ (w.forCall tape i).Shaped C.prog ∧ i.vars = [] ∧ Input.okWide C.prog (w.forCall tape i) .any w.heap.size f i ∧
      ((s.pre enc C.prog fn conds apart (w.forCall tape i).memory i.args ∧ X (w.forCall tape i).memory i.args) ∧ sizedMet enc C.prog fn (OpenSpec.ofChange s) apart (w.forCall tape i).memory i.args) ∧ a.holds C.prog (lone (Frame.enter C.prog f i.args .normal) [] (w.forCall tape i)))
    (con : ∀ (W : World) (base : Nat) (args : Array Value) (ds gs : List (DataW H)) (before : List MemPlace), (∀ (j : Nat) t v, fn.params[j]? = some t → args[j]? = some v → Value.okWide C.prog W .any base t v) → DataW.Whole enc C.prog fn.params.toList s.vars apart W args.toList ds gs before →
      conds.all (PathCond.test C.prog ⟨fn.params.toList, ds, s.plain.varTypes C.prog, gs⟩) = true → (DataW.weightsEach C.prog (fn.params.toList ++ s.plain.varTypes C.prog) (ds ++ gs)).all (· ≤ reachBytes) = true → X W args → W.ShapedOpen C.prog →
      Calls C.prog f args W fun e W' => ∃ v, e = .returned v ∧ s.post enc C.prog fn apart fresh handsOn again W args v W') :
    ReturnsInHanded a C os f .any (fun w args => (s.pre enc C.prog fn conds apart w args ∧ X w args) ∧ sizedMet enc C.prog fn (OpenSpec.ofChange s) apart w args) (s.post enc C.prog fn apart fresh handsOn again) := by
  refine returnsInHanded_of_calls own started noInit wit ?_
  rintro w tape i _ hsh _ ⟨_, _, _, fn', hfn', _, _, _, _, hval⟩ ⟨⟨⟨ds, gs, before, hw, hc⟩, hx⟩, hz⟩ _
  obtain rfl : fn' = fn := Option.some.inj (hfn'.symm.trans hfn)
  refine (con (w.forCall tape i) w.heap.size i.args ds gs before hval (DataW.Whole.of_heap (w' := w.forCall tape i) (by rfl) hw) hc (hz.weights hw) (hX _ _ _ (by rfl) hx) hsh).mono ?_
  rintro _ W' ⟨v, rfl, hp⟩
  exact ChangeSpec.post_blind hp
end Go.Proofs.YtlkdmbpbjhjkfaaGreatDoor
namespace Go.Proofs.YtlkdmbpbjhjkfaaGreatDoor
set_option linter.unusedVariables false
set_option linter.unusedSimpArgs false
set_option maxRecDepth 100000
def u8ren : Go.Shelf.Ren := ⟨fun _ => 0, fun | 5 => 5 | 119 => 166 | 138 => 252 | 139 => 253 | _ => 0, fun | 3 => 4 | 4 => 5 | _ => 0⟩
theorem tabs_of {W : World} (hsh : W.ShapedOpen Tryz.prog) {d1 d2 : DataW Unit} (h3 : Go.Lib.VarReads Tryz.prog W "unicode/utf8.first" d1) (h4 : Go.Lib.VarReads Tryz.prog W "unicode/utf8.acceptRanges" d2) (e1 : d1 = Go.Lib.firstData := by kernel_rfl) (e2 : d2 = Go.Lib.acceptData := by kernel_rfl) : Tabs W W.heap.size := by
  subst e1; subst e2
  obtain ⟨m, hm⟩ := cell_of_shapedOpen_int (P := Tryz.prog) (g := 0) (t := 3) (zero := #[.int .i64 0]) hsh (of_decide_eq_true (by kernel_rfl)) (by kernel_rfl) rfl (by kernel_rfl) (by kernel_rfl) Tryz.underlying3
  have hu := Go.Proofs.utf8Tabs_of_readsT (P := Tryz.prog) (ρ := u8ren) { t5 := Tryz.underlying5, t119 := Tryz.underlying166, t138 := Tryz.underlying252, t139 := Tryz.underlying253 } { n3 := by kernel_rfl, n4 := by kernel_rfl, y3 := by kernel_rfl, y4 := by kernel_rfl, c5 := by kernel_rfl, c119 := by kernel_rfl, c138 := by kernel_rfl } h3 h4
  have h1 : ∀ c, c < 256 → W.cell? ⟨4, c, none⟩ = some (.int .u8 (Lib.firstT c)) := hu.1
  have h2 : ∀ i, i < 16 → W.cell? ⟨5, 2 * i, none⟩ = some (.int .u8 (Lib.accLo i)) ∧ W.cell? ⟨5, 2 * i + 1, none⟩ = some (.int .u8 (Lib.accHi i)) := hu.2
  exact ⟨cell_skip (h1 0 (by decide)), cell_skip (h2 0 (by decide)).1, h1, cell_skip hm, ⟨m, hm⟩, h2⟩
end Go.Proofs.YtlkdmbpbjhjkfaaGreatDoor
namespace Go.Proofs.YtlkdmbpbjhjkfaaGreatDoor
set_option linter.unusedVariables false
set_option linter.unusedSimpArgs false
set_option maxRecDepth 100000
theorem seat_main : Tryz.prog.mainIs = some ((true, "042db8cd397699b23d1f30724be7f7fd46a346a9a8aa6dfad5608fe212b22c42").1, (true, "042db8cd397699b23d1f30724be7f7fd46a346a9a8aa6dfad5608fe212b22c42").2.toList) := by kernel_rfl
theorem seat_looks : true = Tryz.prog.looks [] := by kernel_rfl
end Go.Proofs.YtlkdmbpbjhjkfaaGreatDoor
namespace Go.Proofs.YtlkdmbpbjhjkfaaGreatDoor
set_option linter.unusedVariables false
set_option linter.unusedSimpArgs false
set_option maxRecDepth 100000
theorem tab10_of {W : World} {d : DataW Unit} (h : Go.Lib.VarReads Tryz.prog W "internal/strconv.uint64pow10" d) (e : d = Go.Lib.tabData .u64 Go.Lib.pow10Tab := by kernel_rfl) : Tab10 W W.heap.size := by
  subst e
  have hg : Tryz.prog.globalNamed "internal/strconv.uint64pow10" = some 1 := by kernel_rfl
  have hT : Go.Lib.TabIs Tryz.prog W "internal/strconv.uint64pow10" .u64 Go.Lib.pow10Tab := by
    obtain ⟨g', t', cs, fuel, p, hg', ht', hvar, hd⟩ := h
    obtain rfl := Option.some.inj (hg.symm.trans hg')
    obtain rfl := Option.some.inj ((show (Tryz.prog.globals[1]?).map (·.type) = some 220 by kernel_rfl).symm.trans ht')
    unfold Go.Lib.TabIs
    rw [hvar, ← Go.Lib.cells_of_tab Tryz.underlying220 Tryz.underlying188 (by kernel_rfl) (by kernel_rfl) hd]
  exact ⟨cell_skip (Go.Lib.TabIs.cell hT hg 0 (by decide)), hT⟩
end Go.Proofs.YtlkdmbpbjhjkfaaGreatDoor
namespace Go.Proofs.YtlkdmbpbjhjkfaaGreatDoor
set_option linter.unusedVariables false
set_option linter.unusedSimpArgs false
set_option maxRecDepth 100000
theorem errcell_of {W : World} {n : String} {g : Nat} {t : TypeId} {ms : Array (String × TypeId)} {nm : String} {d0 : DataW Unit} (h : Go.Lib.VarReads Tryz.prog W n (.iface nm d0)) (hg : Tryz.prog.globalNamed n = some g) (ht : (Tryz.prog.globals[g]?).map (·.type) = some t) (hu : Tryz.prog.underlying t = some (.interface ms)) : ∃ ev : Value, W.cell? ⟨g, 0, none⟩ = some ev ∧ (ev = .nilIface ∨ ∃ te pe, ev = .iface te pe) := by
  obtain ⟨g', t', cs, fuel, p, hg', ht', hv, hd⟩ := h
  obtain rfl := Option.some.inj (hg.symm.trans hg')
  obtain rfl := Option.some.inj (ht.symm.trans ht')
  obtain ⟨_, u, v, hcs, _⟩ := iface_of_trod hu hd
  have hc := World.var?_cell hg hv 0
  have e : cs[0]? = some (.iface u v) := by rw [← Array.getElem?_toList, hcs]; rfl
  exact ⟨_, hc.trans e, .inr ⟨u, v, rfl⟩⟩
theorem errtab_of {W : World} {m1 m2 : String} {d1 d2 : DataW Unit} (h1 : Go.Lib.VarReads Tryz.prog W "strconv.ErrSyntax" (.iface m1 d1)) (h2 : Go.Lib.VarReads Tryz.prog W "strconv.ErrRange" (.iface m2 d2)) : ErrTab W W.heap.size := by
  have e1 := errcell_of h1 (g := 2) (t := 111) (by kernel_rfl) (by kernel_rfl) Tryz.underlying111
  have e2 := errcell_of h2 (g := 3) (t := 111) (by kernel_rfl) (by kernel_rfl) Tryz.underlying111
  obtain ⟨v1, c1, _⟩ := e1
  obtain ⟨v2, c2, _⟩ := e2
  exact ⟨cell_skip c1, cell_skip c2, errcell_of h1 (g := 2) (t := 111) (by kernel_rfl) (by kernel_rfl) Tryz.underlying111, errcell_of h2 (g := 3) (t := 111) (by kernel_rfl) (by kernel_rfl) Tryz.underlying111⟩
end Go.Proofs.YtlkdmbpbjhjkfaaGreatDoor
namespace Go.Proofs.YtlkdmbpbjhjkfaaGreatDoor.pDohKnown
open Go.ChangeShapes Go.WideShapes Go.ChangeAt Go.RowKit Go.Deep
open Go.ChangeMaps (open_string shut_string)
set_option linter.unusedVariables false
theorem own : ownKnob Tryz.prog.godebug = none := by kernel_rfl
theorem laidOut : laidOutB Tryz.prog = true := by kernel_rfl
set_option maxRecDepth 100000 in
theorem lifted (os : Os) (started : os.Started) (H : Type) (enc : TypeId × Value → H) :
    ReturnsInHanded {} Tryz.checked os 10 .any (fun w args => (Rows.dohKnownSpec.pre enc Tryz.prog Tryz.f10 Rows.dohKnownRow.domain false w args ∧ laidMetH Tryz.prog [("math/bits.deBruijn32tab", Rows.laid_math_bits_deBruijn32tab), ("math/bits.deBruijn64tab", Rows.laid_math_bits_deBruijn64tab), ("internal/strconv.uint64pow10", Rows.laid_internal_strconv_uint64pow10), ("unicode/utf8.acceptRanges", Rows.laid_unicode_utf8_acceptRanges), ("strconv.ErrRange", Rows.laid_strconv_ErrRange), ("strconv.ErrSyntax", Rows.laid_strconv_ErrSyntax), ("unicode/utf8.first", Rows.laid_unicode_utf8_first)] w) ∧ sizedMet enc Tryz.prog Tryz.f10 (OpenSpec.ofChange Rows.dohKnownSpec) false w args) (Rows.dohKnownSpec.post enc Tryz.prog Tryz.f10 false true false false) := by
  refine returns_listed (C := Tryz.checked) (X := fun w _ => laidMetH Tryz.prog [("math/bits.deBruijn32tab", Rows.laid_math_bits_deBruijn32tab), ("math/bits.deBruijn64tab", Rows.laid_math_bits_deBruijn64tab), ("internal/strconv.uint64pow10", Rows.laid_internal_strconv_uint64pow10), ("unicode/utf8.acceptRanges", Rows.laid_unicode_utf8_acceptRanges), ("strconv.ErrRange", Rows.laid_strconv_ErrRange), ("strconv.ErrSyntax", Rows.laid_strconv_ErrSyntax), ("unicode/utf8.first", Rows.laid_unicode_utf8_first)] w) (fun _ _ _ hh h => h.of_heap hh) own started (by kernel_rfl) Tryz.func10
    (ChangeSpec.witness_shaped (enc := enc) (C := Tryz.checked) (os := os) (X := fun w _ => laidMetH Tryz.prog [("math/bits.deBruijn32tab", Rows.laid_math_bits_deBruijn32tab), ("math/bits.deBruijn64tab", Rows.laid_math_bits_deBruijn64tab), ("internal/strconv.uint64pow10", Rows.laid_internal_strconv_uint64pow10), ("unicode/utf8.acceptRanges", Rows.laid_unicode_utf8_acceptRanges), ("strconv.ErrRange", Rows.laid_strconv_ErrRange), ("strconv.ErrSyntax", Rows.laid_strconv_ErrSyntax), ("unicode/utf8.first", Rows.laid_unicode_utf8_first)] w) false (World.laidAll Tryz.prog os [("math/bits.deBruijn32tab", Rows.laid_math_bits_deBruijn32tab), ("math/bits.deBruijn64tab", Rows.laid_math_bits_deBruijn64tab), ("internal/strconv.uint64pow10", Rows.laid_internal_strconv_uint64pow10), ("unicode/utf8.acceptRanges", Rows.laid_unicode_utf8_acceptRanges), ("strconv.ErrRange", Rows.laid_strconv_ErrRange), ("strconv.ErrSyntax", Rows.laid_strconv_ErrSyntax), ("unicode/utf8.first", Rows.laid_unicode_utf8_first)]) #[] 8 (World.laidAll_os _ _ _) (World.shaped_of_ZipB (by kernel_rfl) (by kernel_rfl)) (by kernel_rfl) (by kernel_rfl) (by kernel_rfl) (by rw [MakeChecks.laidMetH_plain _ _ _ (by kernel_rfl)]; exact laidMet_laidAll _ (by kernel_rfl) (by kernel_rfl))) ?_
  intro W base args ds gs before hval0 hW hcnd hsz0 hlaid hsh
  have hlaid' : laidMet Tryz.prog [("math/bits.deBruijn32tab", Rows.laid_math_bits_deBruijn32tab), ("math/bits.deBruijn64tab", Rows.laid_math_bits_deBruijn64tab), ("internal/strconv.uint64pow10", Rows.laid_internal_strconv_uint64pow10), ("unicode/utf8.acceptRanges", Rows.laid_unicode_utf8_acceptRanges), ("strconv.ErrRange", Rows.laid_strconv_ErrRange), ("strconv.ErrSyntax", Rows.laid_strconv_ErrSyntax), ("unicode/utf8.first", Rows.laid_unicode_utf8_first)] W := hlaid
  have hTabs : Tabs W W.heap.size := tabs_of hsh (Go.Lib.laidMet.reads hlaid' (n := "unicode/utf8.first") (d := Rows.laid_unicode_utf8_first) (.tail _ (.tail _ (.tail _ (.tail _ (.tail _ (.tail _ (.head _)))))))) (Go.Lib.laidMet.reads hlaid' (n := "unicode/utf8.acceptRanges") (d := Rows.laid_unicode_utf8_acceptRanges) (.tail _ (.tail _ (.tail _ (.head _)))))
  have hT10 : Tab10 W W.heap.size := tab10_of (Go.Lib.laidMet.reads hlaid' (n := "internal/strconv.uint64pow10") (d := Rows.laid_internal_strconv_uint64pow10) (.tail _ (.tail _ (.head _))))
  have hET : ErrTab W W.heap.size := errtab_of (Go.Lib.laidMet.reads hlaid' (n := "strconv.ErrSyntax") (d := Rows.laid_strconv_ErrSyntax) (.tail _ (.tail _ (.tail _ (.tail _ (.tail _ (.head _))))))) (Go.Lib.laidMet.reads hlaid' (n := "strconv.ErrRange") (d := Rows.laid_strconv_ErrRange) (.tail _ (.tail _ (.tail _ (.tail _ (.head _))))))
  have hsz : ∀ (j : Nat) t d, Tryz.f10.params.toList[j]? = some t → ds[j]? = some d → ∀ n ∈ d.weights Tryz.prog t, n ≤ 140737488351232 := fun j t d ht hd n hn => by
    have h1 := List.all_eq_true.1 hsz0 n (DataW.weights_mem_each (j := j) (t := t) (d := d) (by rw [List.getElem?_append_left (List.getElem?_eq_some_iff.1 ht).1]; exact ht) (by rw [List.getElem?_append_left (List.getElem?_eq_some_iff.1 hd).1]; exact hd) n hn)
    exact of_decide_eq_true h1
  have hval : ∀ (j : Nat) t v, Tryz.f10.params[j]? = some t → args[j]? = some v → Value.okWide Tryz.prog W .any base t v := hval0
  have hW' := hW
  obtain ⟨p, q, hA0, hV, rfl, hfz, hnd⟩ := hW
  have hA : DataW.TrodAll enc Tryz.prog W 0 (fun _ => true) true Tryz.f10.params.toList args.toList ds p := hA0
  rw [Tryz.params10] at hA hval hsz
  obtain ⟨hargs, rfl, rfl⟩ := trodAll_nil hA
  obtain rfl : args = #[] := by cases args; simp_all
  obtain ⟨rfl, rfl⟩ := trodVars_none hV
  clear hA0 hval0
  refine (law_of (dohknown_ok hTabs hET hT10)).mono fun e W' ⟨he, bel⟩ => ?_
  subst he
  exact ⟨_, rfl, _, _, _, [], _, [], hW', trodAll_mk1 (shut_bool Tryz.underlying4 _), trodAll_mk0, rfl, bel.frame _, fun h => by cases h⟩
theorem jf0 : (Rows.dohKnownRow.inPlace == Tryz.prog.inPlace 10) = true := by kernel_rfl
theorem jf1 : (Rows.dohKnownRow.unfollowed == Tryz.prog.unfollowed 10) = true := by kernel_rfl
theorem jf2 : (Rows.dohKnownRow.recurses == Tryz.prog.recurses 10) = true := by kernel_rfl
theorem jf3 : (Rows.dohKnownRow.named == Tryz.prog.varsNamed 10) = true := by kernel_rfl
theorem jall : joinedFacts Tryz.prog 10 Tryz.f10 Rows.dohKnownSpec Rows.dohKnownRow = true := by
  unfold joinedFacts
  rw [jf0, jf1, jf2, jf3]
  kernel_rfl
theorem over : Rows.dohKnownRow.holds Tryz.pinned (OpenSpec.ofChange Rows.dohKnownSpec) :=
  OpenClaim.holds_of_wide 10 Tryz.f10 rfl rfl rfl rfl rfl rfl rfl ⟨rfl, rfl, rfl, rfl, rfl⟩ rfl rfl rfl rfl rfl (by kernel_rfl) Tryz.func10 jall
    (of_decide_eq_true (by kernel_rfl)) (by unfold Func.isWrapper; first | (rw [if_pos (by decide +kernel)]; kernel_rfl) | (rw [if_neg (by decide +kernel)]; exact ⟨rfl, rfl⟩))
    (fun os started H enc _ => lifted os started H enc)
theorem pf0 : Rows.dohKnownRow.wfByText (OpenSpec.ofChange Rows.dohKnownSpec) = true := by kernel_rfl
theorem pf3 : false = Rows.dohKnownRow.goesBy Tryz.prog := by kernel_rfl
theorem proved : Rows.DohKnownCardSaid :=
  Claim7.holds_tied_plain_at .later [] [.data, .data, .data, .data, .sentinel, .sentinel, .pinned] true (true, "042db8cd397699b23d1f30724be7f7fd46a346a9a8aa6dfad5608fe212b22c42") true
    over (fun _ h => by cases h) pf0 (fun _ h => by cases h) dohKnown_row_tie rfl ⟨rfl, rfl⟩ seat_main rfl
    (fun f fn hf hfn => by
      obtain rfl : f = 10 := Option.some.inj ((show Tryz.prog.funcNamed "ostiary/ostiarylaw16.DohKnown" = some 10 by kernel_rfl).symm.trans hf) |>.symm
      obtain rfl : fn = Tryz.f10 := (Option.some.inj (Tryz.func10.symm.trans hfn)).symm
      exact ⟨seat_looks, fun j t ht => by
        rw [Tryz.params10] at ht
        have hm : t ∈ ([] : List Nat) := by simpa using Array.mem_of_getElem? ht
        have hall : (([] : List Nat).all fun u => !Tryz.prog.wantsStandIn u) = true := by kernel_rfl
        exact (show Tryz.prog.wantsStandIn t = false by simpa using List.all_eq_true.1 hall t hm)⟩)
    pf3
end Go.Proofs.YtlkdmbpbjhjkfaaGreatDoor.pDohKnown
