/- The contracts of plain channels, and of the answer beside them. -/
import Derived.Test.YtllfgcekebafhaaP3
namespace Go.Proofs.Ytllfgcekebafhaa
set_option linter.unusedVariables false
set_option linter.unusedSimpArgs false
set_option maxRecDepth 100000

set_option maxHeartbeats 400000 in
theorem clone_ok {w0 : World} {base : Nat} {H : List Seg} {A : Option Addr} {C : Nat} {l : List UInt8} (h : Rd tyB w0 base H A C l) (hl : l.length ≤ 140737488355000) :
    SCalls Try.prog 73 [.slice A l.length C] w0 base (H) (fun v H' => ∃ x : Sl tyB 5, x.l = l ∧ v = .slice x.A x.l.length x.C ∧ H' = x.s :: H) := by
  refine SCalls.of_walk (n := 8) Try.func73 rfl rfl rfl fun cs => ?_
  refine At.seq ?_
  refine At.region ?_
  refine AtL.assign (.inl rfl) rfl rfl ?_
  refine AtL.done ?_
  refine At.seq ?_
  refine At.seq ?_
  refine At.region ?_
  refine AtL.move (.inl rfl) rfl rfl ?_
  refine AtL.eqSliceNil Try.underlying22 (.inl rfl) rfl rfl rfl ?_
  refine AtL.done ?_
  refine At.cond rfl ?_ ?_
  · intro hc1
    have hc1 : A.isNone = true := hc1
    have hA : A = none := by simpa using hc1
    have hl0 : l = [] := List.eq_nil_of_length_eq_zero (by have := h.le; have := h.nil hA; omega)
    refine At.seq ?_
    refine At.region ?_
    refine AtL.assign (.inl rfl) rfl rfl ?_
    refine AtL.done ?_
    refine At.nil ?_
    exact At.ret Try.func73 rfl rfl (⟨Sl.nil, hl0.symm, rfl, rfl⟩)
  · intro hc1
    have hc1 : A.isNone = false := hc1
    refine At.skip ?_
    refine At.seq ?_
    refine At.region ?_
    refine AtL.buildSlice (cs := []) Try.underlying22 tf_zero5 tf_sz5 rfl rfl (.inl rfl) rfl rfl rfl ?_
    intro b1
    refine AtL.own1 tyB (l := ([] : List UInt8)) rfl rfl (by first | decide | simp) ?_
    intro s2 o3
    refine AtL.move (.inl rfl) rfl rfl ?_
    refine AtL.append (l := []) (news := l) 0 tf_el22 rfl o3 (Rd.skip 1 h) (by first | omega | (simp only [List.length_append, List.length_cons, List.length_nil]; omega) | (simp; done) | (simp; omega)) (.inl rfl) rfl rfl rfl ?_
    intro A4 C5 s6 o7
    refine AtL.assign (.inl rfl) rfl rfl ?_
    refine AtL.done ?_
    exact At.ret Try.func73 rfl rfl (⟨⟨A4, C5, [] ++ l, s6, o7⟩, rfl, rfl, rfl⟩)

set_option maxHeartbeats 400000 in
theorem ppush_ok {w0 : World} {base : Nat} {H : List Seg} {b : Nat} {A : Option Addr} {C : Nat} {l : List UInt8} (h : Rd tyB w0 base H A C l) (hl : l.length ≤ 140737488355000) :
    SCalls Try.prog 71 [.pointer (some ⟨b, 0, none⟩), .slice A l.length C] w0 base (H) (fun v H' => ∃ x : Sl tyB 5, x.l = l ∧ v = .tuple #[.slice x.A x.l.length x.C, int 0] ∧ H' = x.s :: H) := by
  refine SCalls.of_walk (n := 8) Try.func71 rfl rfl rfl fun cs => ?_
  refine At.seq ?_
  refine At.region ?_
  refine AtL.assign (.inl rfl) rfl rfl ?_
  refine AtL.assign (.inl rfl) rfl rfl ?_
  refine AtL.done ?_
  refine At.seq ?_
  refine At.region ?_
  refine AtL.move (.inl rfl) rfl rfl ?_
  refine AtL.call tf_body73 (.inl rfl) rfl rfl (clone_ok (l := l) h (by first | omega | (simp only [List.length_append, List.length_cons, List.length_nil]; omega) | (simp; done) | (simp; omega))) ?_
  rintro _ _ ⟨⟨A1, C2, l3, s4, o5⟩, hx6, rfl, rfl⟩
  obtain rfl : l = l3 := hx6.symm
  refine AtL.assign (.inl rfl) rfl rfl ?_
  refine AtL.assign (.inl rfl) rfl rfl ?_
  refine AtL.done ?_
  exact At.ret Try.func71 rfl rfl (⟨⟨A1, C2, l, s4, o5⟩, rfl, rfl, rfl⟩)

def psendF (sh : Bool) (l : List UInt8) : List UInt8 := if sh = true ∨ l.length = 0 then [] else l

set_option maxHeartbeats 400000 in
theorem psend_ok {w0 : World} {base : Nat} {H : List Seg} {b : Nat} {sh : Bool} {A : Option Addr} {C : Nat} {l : List UInt8} (h : Rd tyB w0 base H A C l) (hl : l.length ≤ 140737488355000) :
    SCalls Try.prog 72 [.pointer (some ⟨b, 0, none⟩), .slice A l.length C] w0 base ([(b, .cells #[.bool sh] 64 (0, 0))] :: H) (fun v H' => ∃ x : Sl tyB 5, x.l = psendF sh l ∧ v = .slice x.A x.l.length x.C ∧ H' = x.s :: [(b, .cells #[.bool sh] 64 (0, 0))] :: H) := by
  refine SCalls.of_walk (n := 16) Try.func72 rfl rfl rfl fun cs => ?_
  refine At.seq ?_
  refine At.region ?_
  refine AtL.assign (.inl rfl) rfl rfl ?_
  refine AtL.done ?_
  refine At.seq ?_
  refine At.seq ?_
  refine At.region ?_
  refine AtL.move (.inl rfl) rfl rfl ?_
  refine AtL.nilCheck (.inl rfl) rfl rfl ?_
  refine AtL.fieldAddrB tf_fo64_0 (.inl rfl) rfl rfl rfl ?_
  refine AtL.load tf_flat4 (.inl rfl) rfl rfl (Cell.own 0 0 rfl rfl rfl) ?_
  refine AtL.move (.inl rfl) rfl rfl ?_
  refine AtL.join 4 (E' := [(13, .bool (decide ((sh = true) ∨ ((l.length : Int) = 0)))), (1, .slice A l.length C)]) (H' := [(b, .cells #[.bool sh] 64 (0, 0))] :: H) (fun J => ?_) ?_
  · refine AtL.split (t := 9) rfl ?_ ?_
    · intro hs9
      have hs9 : sh = true := hs9
      refine AtL.skipped rfl rfl rfl rfl rfl rfl ?_
      refine AtL.skipped rfl rfl rfl rfl rfl rfl ?_
      refine AtL.skipped rfl rfl rfl rfl rfl rfl ?_
      refine AtL.pickT (.inl rfl) rfl rfl rfl ?_
      exact J _ (by exact ⟨(boolIs (by clear J; first | (simp [hs9]; done) | (simp_all; done) | grind)), rfl, trivial⟩)
    · intro hs9
      have hs9 : sh = false := hs9
      refine AtL.move (.inr ⟨_, _, _, rfl, rfl, rfl, rfl⟩) rfl rfl ?_
      refine AtL.lenL Try.underlying22 (.inr ⟨_, _, _, rfl, rfl, rfl, rfl⟩) rfl rfl ?_
      refine AtL.eqi (.inr ⟨_, _, _, rfl, rfl, rfl, rfl⟩) rfl rfl rfl ?_
      refine AtL.pickF (.inl rfl) rfl rfl rfl ?_
      exact J _ (by exact ⟨(boolIs (by clear J; first | (simp [hs9]; done) | (simp_all; done) | grind)), rfl, trivial⟩)
  · skip
    refine AtL.done ?_
    refine At.cond rfl ?_ ?_
    · intro hc1
      have hc1 : (sh = true) ∨ ((l.length : Int) = 0) := of_decide_eq_true hc1
      refine At.seq ?_
      refine At.region ?_
      refine AtL.assign (.inl rfl) rfl rfl ?_
      refine AtL.done ?_
      refine At.nil ?_
      exact At.ret Try.func72 rfl rfl (⟨Sl.nil, (by rw [psendF, if_pos (by simpa using hc1)]; rfl), rfl, rfl⟩)
    · intro hc1
      have hc1 : ¬ ((sh = true) ∨ ((l.length : Int) = 0)) := of_decide_eq_false hc1
      refine At.skip ?_
      refine At.seq ?_
      refine At.region ?_
      refine AtL.move (.inl rfl) rfl rfl ?_
      refine AtL.call tf_body73 (.inl rfl) rfl rfl (clone_ok (l := l) (Rd.skip 1 h) (by first | omega | (simp only [List.length_append, List.length_cons, List.length_nil]; omega) | (simp; done) | (simp; omega))) ?_
      rintro _ _ ⟨⟨A1, C2, l3, s4, o5⟩, hx6, rfl, rfl⟩
      obtain rfl : l = l3 := hx6.symm
      refine AtL.assign (.inl rfl) rfl rfl ?_
      refine AtL.done ?_
      exact At.ret Try.func72 rfl rfl (⟨⟨A1, C2, l, s4, o5⟩, (by rw [psendF, if_neg (by simpa using hc1)]), rfl, rfl⟩)

set_option maxHeartbeats 400000 in
theorem rhello_ok {w0 : World} {base : Nat} {H : List Seg} {b : Nat} {vb : Value} {se hello out off gr sh : Bool} :
    SCalls Try.prog 29 [.pointer (some ⟨b, 0, none⟩)] w0 base ([(b, .cells #[.bool se, vb, .bool hello, .bool out, .bool off, .bool gr, .bool sh] 44 (0, 0))] :: H) (fun v H' => ∃ x : Sl tyB 5, x.l = greetF gr ∧ v = .slice x.A x.l.length x.C ∧ H' = x.s :: [(b, .cells #[.bool se, vb, .bool hello, .bool out, .bool off, .bool true, .bool sh] 44 (0, 0))] :: H) := by
  refine SCalls.of_walk (n := 11) Try.func29 rfl rfl rfl fun cs => ?_
  refine At.seq ?_
  refine At.region ?_
  refine AtL.assign (.inl rfl) rfl rfl ?_
  refine AtL.done ?_
  refine At.seq ?_
  refine At.seq ?_
  refine At.region ?_
  refine AtL.move (.inl rfl) rfl rfl ?_
  refine AtL.nilCheck (.inl rfl) rfl rfl ?_
  refine AtL.fieldAddrB tf_fo44_5 (.inl rfl) rfl rfl rfl ?_
  refine AtL.load tf_flat4 (.inl rfl) rfl rfl (Cell.own 0 0 rfl rfl rfl) ?_
  refine AtL.done ?_
  refine At.cond rfl ?_ ?_
  · intro hc1
    have hc1 : gr = true := hc1
    rw [hc1]
    refine At.seq ?_
    refine At.region ?_
    refine AtL.assign (.inl rfl) rfl rfl ?_
    refine AtL.done ?_
    refine At.nil ?_
    exact At.ret Try.func29 rfl rfl (⟨Sl.nil, rfl, rfl, rfl⟩)
  · intro hc1
    have hc1 : gr = false := hc1
    rw [hc1]
    refine At.skip ?_
    refine At.seq ?_
    refine At.region ?_
    refine AtL.move (.inl rfl) rfl rfl ?_
    refine AtL.nilCheck (.inl rfl) rfl rfl ?_
    refine AtL.fieldAddrB tf_fo44_5 (.inl rfl) rfl rfl rfl ?_
    refine AtL.store (H' := [(b, .cells #[.bool se, vb, .bool hello, .bool out, .bool off, .bool true, .bool sh] 44 (0, 0))] :: H) 0 0 tf_sz4 (.inl rfl) rfl rfl rfl rfl rfl rfl rfl rfl rfl ?_
    refine AtL.done ?_
    refine At.seq ?_
    refine At.region ?_
    refine AtL.buildSlice (cs := [.int .u8 1, .int .u8 0, .int .u8 1, .int .u8 1]) Try.underlying22 tf_zero5 tf_sz5 rfl rfl (.inl rfl) rfl rfl rfl ?_
    intro b1
    refine AtL.own1 tyB (l := ([1, 0, 1, 1] : List UInt8)) rfl rfl (by first | decide | simp) ?_
    intro s2 o3
    refine AtL.assign (.inl rfl) rfl rfl ?_
    refine AtL.done ?_
    exact At.ret Try.func29 rfl rfl (⟨⟨(some ⟨b1, 0, none⟩), 4, [1, 0, 1, 1], s2, o3⟩, rfl, rfl, rfl⟩)

def rcloseF (se gr sh : Bool) : List UInt8 := bif se then closeF gr sh else []
theorem greet_len (g : Bool) : (greetF g).length ≤ 4 := by cases g <;> decide

set_option maxHeartbeats 400000 in
theorem rclose_ok {w0 : World} {base : Nat} {H : List Seg} {b : Nat} {vb : Value} {se hello out off gr sh : Bool} :
    SCalls Try.prog 23 [.pointer (some ⟨b, 0, none⟩)] w0 base ([(b, .cells #[.bool se, vb, .bool hello, .bool out, .bool off, .bool gr, .bool sh] 44 (0, 0))] :: H) (fun v H' => ∃ x : Sl tyB 5, x.l = rcloseF se gr sh ∧ v = .slice x.A x.l.length x.C ∧ H' = x.s :: [(b, .cells #[.bool se, vb, .bool hello, .bool out, .bool off, .bool (closedF se gr sh), .bool true] 44 (0, 0))] :: H) := by
  have hg := greet_len gr
  refine SCalls.of_walk (n := 19) Try.func23 rfl rfl rfl fun cs => ?_
  refine At.seq ?_
  refine At.region ?_
  refine AtL.assign (.inl rfl) rfl rfl ?_
  refine AtL.done ?_
  refine At.seq ?_
  refine At.seq ?_
  refine At.region ?_
  refine AtL.move (.inl rfl) rfl rfl ?_
  refine AtL.nilCheck (.inl rfl) rfl rfl ?_
  refine AtL.fieldAddrB tf_fo44_6 (.inl rfl) rfl rfl rfl ?_
  refine AtL.load tf_flat4 (.inl rfl) rfl rfl (Cell.own 0 0 rfl rfl rfl) ?_
  refine AtL.done ?_
  refine At.cond rfl ?_ ?_
  · intro hc1
    have hc1 : sh = true := hc1
    rw [hc1]
    refine At.seq ?_
    refine At.region ?_
    refine AtL.assign (.inl rfl) rfl rfl ?_
    refine AtL.done ?_
    refine At.nil ?_
    exact At.ret Try.func23 rfl rfl (⟨Sl.nil, by cases se <;> rfl, rfl, by cases se <;> rfl⟩)
  · intro hc1
    have hc1 : sh = false := hc1
    rw [hc1]
    refine At.skip ?_
    refine At.seq ?_
    refine At.region ?_
    refine AtL.move (.inl rfl) rfl rfl ?_
    refine AtL.nilCheck (.inl rfl) rfl rfl ?_
    refine AtL.fieldAddrB tf_fo44_6 (.inl rfl) rfl rfl rfl ?_
    refine AtL.store (H' := [(b, .cells #[.bool se, vb, .bool hello, .bool out, .bool off, .bool gr, .bool true] 44 (0, 0))] :: H) 0 0 tf_sz4 (.inl rfl) rfl rfl rfl rfl rfl rfl rfl rfl rfl ?_
    refine AtL.done ?_
    refine At.seq ?_
    refine At.seq ?_
    refine At.region ?_
    refine AtL.move (.inl rfl) rfl rfl ?_
    refine AtL.nilCheck (.inl rfl) rfl rfl ?_
    refine AtL.fieldAddrB tf_fo44_0 (.inl rfl) rfl rfl rfl ?_
    refine AtL.load tf_flat4 (.inl rfl) rfl rfl (Cell.own 0 0 rfl rfl rfl) ?_
    refine AtL.not (.inl rfl) rfl rfl ?_
    refine AtL.done ?_
    refine At.cond rfl ?_ ?_
    · intro hc2
      have hc2 : se = false := bnot_true hc2
      subst hc2
      refine At.seq ?_
      refine At.region ?_
      refine AtL.assign (.inl rfl) rfl rfl ?_
      refine AtL.done ?_
      refine At.nil ?_
      exact At.ret Try.func23 rfl rfl (⟨Sl.nil, rfl, rfl, rfl⟩)
    · intro hc2
      have hc2 : se = true := bnot_false hc2
      subst hc2
      refine At.skip ?_
      refine At.seq ?_
      refine At.region ?_
      refine AtL.move (.inl rfl) rfl rfl ?_
      refine AtL.call tf_body29 (.inl rfl) rfl rfl rhello_ok ?_
      rintro _ _ ⟨⟨A1, C2, l3, s4, o5⟩, hx6, rfl, rfl⟩
      obtain rfl : greetF gr = l3 := hx6.symm
      refine AtL.buildSlice (cs := [.int .u8 3, .int .u8 0, .int .u8 0]) Try.underlying22 tf_zero5 tf_sz5 rfl rfl (.inl rfl) rfl rfl rfl ?_
      intro b7
      refine AtL.own1 tyB (l := ([3, 0, 0] : List UInt8)) rfl rfl (by first | decide | simp) ?_
      intro s8 o9
      refine AtL.append (l := greetF gr) (news := [3, 0, 0]) 1 tf_el22 rfl o5 (o9.rd (i := 0) rfl) (by first | omega | (simp only [List.length_append, List.length_cons, List.length_nil]; omega) | (simp; done) | (simp; omega)) (.inl rfl) rfl rfl rfl ?_
      intro A10 C11 s12 o13
      refine AtL.assign (.inl rfl) rfl rfl ?_
      refine AtL.done ?_
      refine At.pick (H' := s12 :: [(b, .cells #[.bool true, vb, .bool hello, .bool out, .bool off, .bool true, .bool true] 44 (0, 0))] :: H) [1, 2] 3 rfl rfl ?_
      exact At.ret Try.func23 rfl rfl (⟨⟨A10, C11, (greetF gr) ++ [3, 0, 0], s12, o13⟩, rfl, rfl, rfl⟩)

end Go.Proofs.Ytllfgcekebafhaa
