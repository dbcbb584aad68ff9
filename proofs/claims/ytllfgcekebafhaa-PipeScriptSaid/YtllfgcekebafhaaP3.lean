/- The contracts of channels: hello, close and what they tell of themselves. -/
import Derived.Test.YtllfgcekebafhaaP2
namespace Go.Proofs.Ytllfgcekebafhaa
set_option linter.unusedVariables false
set_option linter.unusedSimpArgs false
set_option maxRecDepth 100000

set_option maxHeartbeats 400000 in
theorem greet_ok {w0 : World} {base : Nat} {H : List Seg} {b : Nat} {vb : Value} {hello off out gr sh : Bool} :
    SCalls Try.prog 55 [.pointer (some ⟨b, 0, none⟩)] w0 base ([(b, .cells #[vb, .bool hello, .bool off, .bool out, .bool gr, .bool sh] 61 (0, 0))] :: H) (fun v H' => ∃ x : Sl tyB 5, x.l = greetF gr ∧ v = .slice x.A x.l.length x.C ∧ H' = x.s :: [(b, .cells #[vb, .bool hello, .bool off, .bool out, .bool true, .bool sh] 61 (0, 0))] :: H) := by
  refine SCalls.of_walk (n := 18) Try.func55 rfl rfl rfl fun cs => ?_
  refine At.seq ?_
  refine At.region ?_
  refine AtL.assign (.inl rfl) rfl rfl ?_
  refine AtL.done ?_
  refine At.seq ?_
  refine At.seq ?_
  refine At.region ?_
  refine AtL.move (.inl rfl) rfl rfl ?_
  refine AtL.nilCheck (.inl rfl) rfl rfl ?_
  refine AtL.fieldAddrB tf_fo61_4 (.inl rfl) rfl rfl rfl ?_
  refine AtL.load tf_flat4 (.inl rfl) rfl rfl (Cell.own 0 0 rfl rfl rfl) ?_
  refine AtL.done ?_
  refine At.cond rfl ?_ ?_
  · intro hc1
    have hc1 : gr = true := hc1
    rw [hc1]
    refine At.seq ?_
    refine At.region ?_
    refine AtL.assign (.inl rfl) rfl rfl ?_
    refine AtL.done ?_
    refine At.nil ?_
    exact At.ret Try.func55 rfl rfl (⟨Sl.nil, rfl, rfl, rfl⟩)
  · intro hc1
    have hc1 : gr = false := hc1
    rw [hc1]
    refine At.skip ?_
    refine At.seq ?_
    refine At.region ?_
    refine AtL.move (.inl rfl) rfl rfl ?_
    refine AtL.nilCheck (.inl rfl) rfl rfl ?_
    refine AtL.fieldAddrB tf_fo61_4 (.inl rfl) rfl rfl rfl ?_
    refine AtL.store (H' := [(b, .cells #[vb, .bool hello, .bool off, .bool out, .bool true, .bool sh] 61 (0, 0))] :: H) 0 0 tf_sz4 (.inl rfl) rfl rfl rfl rfl rfl rfl rfl rfl rfl ?_
    refine AtL.done ?_
    refine At.seq ?_
    refine At.region ?_
    refine AtL.buildSlice (cs := [.int .u8 1]) Try.underlying22 tf_zero5 tf_sz5 rfl rfl (.inl rfl) rfl rfl rfl ?_
    intro b1
    refine AtL.own1 tyB (l := ([1] : List UInt8)) rfl rfl (by first | decide | simp) ?_
    intro s2 o3
    refine AtL.call tf_body11 (.inl rfl) rfl rfl (rec_ok (l := [1]) (o3.rd (i := 0) rfl) (by first | omega | (simp only [List.length_append, List.length_cons, List.length_nil]; omega) | (simp; done) | (simp; omega)) 1) ?_
    rintro _ _ ⟨A4, C5, s6, l8, o7, hl9, rfl, rfl⟩
    obtain rfl : [1, 0, 1, 1] = l8 := (hl9.trans recL_hello).symm
    refine AtL.move (.inl rfl) rfl rfl ?_
    refine AtL.extract (.inl rfl) rfl rfl rfl ?_
    refine AtL.extract (.inl rfl) rfl rfl rfl ?_
    refine AtL.assign (.inl rfl) rfl rfl ?_
    refine AtL.assign (.inl rfl) rfl rfl ?_
    refine AtL.done ?_
    refine At.seq ?_
    refine At.region ?_
    refine AtL.move (.inl rfl) rfl rfl ?_
    refine AtL.assign (.inl rfl) rfl rfl ?_
    refine AtL.done ?_
    refine At.pick (H' := s6 :: [(b, .cells #[vb, .bool hello, .bool off, .bool out, .bool true, .bool sh] 61 (0, 0))] :: H) [0, 2] 3 rfl rfl ?_
    exact At.ret Try.func55 rfl rfl (⟨⟨A4, C5, [1, 0, 1, 1], s6, o7⟩, rfl, rfl, rfl⟩)

set_option maxHeartbeats 400000 in
theorem close_ok {w0 : World} {base : Nat} {H : List Seg} {b : Nat} {vb : Value} {hello off out gr sh : Bool} :
    SCalls Try.prog 50 [.pointer (some ⟨b, 0, none⟩)] w0 base ([(b, .cells #[vb, .bool hello, .bool off, .bool out, .bool gr, .bool sh] 61 (0, 0))] :: H) (fun v H' => ∃ x : Sl tyB 5, x.l = closeF gr sh ∧ v = .slice x.A x.l.length x.C ∧ H' = x.s :: [(b, .cells #[vb, .bool hello, .bool off, .bool out, .bool (closedF true gr sh), .bool true] 61 (0, 0))] :: H) := by
  refine SCalls.of_walk (n := 21) Try.func50 rfl rfl rfl fun cs => ?_
  refine At.seq ?_
  refine At.region ?_
  refine AtL.assign (.inl rfl) rfl rfl ?_
  refine AtL.done ?_
  refine At.seq ?_
  refine At.seq ?_
  refine At.region ?_
  refine AtL.move (.inl rfl) rfl rfl ?_
  refine AtL.nilCheck (.inl rfl) rfl rfl ?_
  refine AtL.fieldAddrB tf_fo61_5 (.inl rfl) rfl rfl rfl ?_
  refine AtL.load tf_flat4 (.inl rfl) rfl rfl (Cell.own 0 0 rfl rfl rfl) ?_
  refine AtL.done ?_
  refine At.cond rfl ?_ ?_
  · intro hc1
    have hc1 : sh = true := hc1
    rw [hc1]
    refine At.seq ?_
    refine At.region ?_
    refine AtL.assign (.inl rfl) rfl rfl ?_
    refine AtL.done ?_
    refine At.nil ?_
    exact At.ret Try.func50 rfl rfl (⟨Sl.nil, rfl, rfl, rfl⟩)
  · intro hc1
    have hc1 : sh = false := hc1
    have hg : (greetF gr).length ≤ 4 := by unfold greetF; split <;> simp
    rw [hc1]
    refine At.skip ?_
    refine At.seq ?_
    refine At.region ?_
    refine AtL.move (.inl rfl) rfl rfl ?_
    refine AtL.nilCheck (.inl rfl) rfl rfl ?_
    refine AtL.fieldAddrB tf_fo61_5 (.inl rfl) rfl rfl rfl ?_
    refine AtL.store (H' := [(b, .cells #[vb, .bool hello, .bool off, .bool out, .bool gr, .bool true] 61 (0, 0))] :: H) 0 0 tf_sz4 (.inl rfl) rfl rfl rfl rfl rfl rfl rfl rfl rfl ?_
    refine AtL.done ?_
    refine At.seq ?_
    refine At.region ?_
    refine AtL.call tf_body11 (.inl rfl) rfl rfl (rec_ok (l := []) Rd.nil_ (by first | omega | (simp only [List.length_append, List.length_cons, List.length_nil]; omega) | (simp; done) | (simp; omega)) 3) ?_
    rintro _ _ ⟨A1, C2, s3, l5, o4, hl6, rfl, rfl⟩
    obtain rfl : [3, 0, 0] = l5 := (hl6.trans recL_close).symm
    refine AtL.move (.inl rfl) rfl rfl ?_
    refine AtL.extract (.inl rfl) rfl rfl rfl ?_
    refine AtL.extract (.inl rfl) rfl rfl rfl ?_
    refine AtL.assign (.inl rfl) rfl rfl ?_
    refine AtL.assign (.inl rfl) rfl rfl ?_
    refine AtL.done ?_
    refine At.seq ?_
    refine At.region ?_
    refine AtL.move (.inl rfl) rfl rfl ?_
    refine AtL.pick (H' := [(b, .cells #[vb, .bool hello, .bool off, .bool out, .bool gr, .bool true] 61 (0, 0))] :: s3 :: H) [1, 0] 2 rfl rfl ?_
    refine AtL.call tf_body55 (.inl rfl) rfl rfl greet_ok ?_
    rintro _ _ ⟨⟨A9, C10, l11, s12, o13⟩, hx8, rfl, rfl⟩
    obtain rfl : greetF gr = l11 := hx8.symm
    refine AtL.move (.inl rfl) rfl rfl ?_
    refine AtL.buildSlice (cs := [.slice A9 (greetF gr).length C10, .slice A1 [3, 0, 0].length C2]) Try.underlying34 tf_zero22 tf_sz22 rfl rfl (.inl rfl) rfl rfl rfl ?_
    intro b14
    refine AtL.call tf_body28 (.inl rfl) rfl rfl (concat2 (o13.rd (i := 0) rfl) (o4.rd (i := 2) rfl) (by first | omega | (simp only [List.length_append, List.length_cons, List.length_nil]; omega) | (simp; done) | (simp; omega))) ?_
    rintro _ _ ⟨A15, C16, s17, o18, rfl, rfl⟩
    refine AtL.assign (.inl rfl) rfl rfl ?_
    refine AtL.done ?_
    refine At.pick (H' := s17 :: [(b, .cells #[vb, .bool hello, .bool off, .bool out, .bool true, .bool true] 61 (0, 0))] :: H) [0, 3] 5 rfl rfl ?_
    exact At.ret Try.func50 rfl rfl (⟨⟨A15, C16, (greetF gr) ++ [3, 0, 0], s17, o18⟩, rfl, rfl, rfl⟩)

set_option maxHeartbeats 400000 in
theorem ended_ok {w0 : World} {base : Nat} {H : List Seg} {b : Nat} {vb : Value} {hello off out gr sh : Bool} :
    SCalls Try.prog 51 [.pointer (some ⟨b, 0, none⟩)] w0 base ([(b, .cells #[vb, .bool hello, .bool off, .bool out, .bool gr, .bool sh] 61 (0, 0))] :: H) (fun v H' => v = .bool off ∧ H' = [(b, .cells #[vb, .bool hello, .bool off, .bool out, .bool gr, .bool sh] 61 (0, 0))] :: H) := by
  refine SCalls.of_walk (n := 7) Try.func51 rfl rfl rfl fun cs => ?_
  refine At.seq ?_
  refine At.region ?_
  refine AtL.assign (.inl rfl) rfl rfl ?_
  refine AtL.done ?_
  refine At.seq ?_
  refine At.region ?_
  refine AtL.move (.inl rfl) rfl rfl ?_
  refine AtL.nilCheck (.inl rfl) rfl rfl ?_
  refine AtL.fieldAddrB tf_fo61_2 (.inl rfl) rfl rfl rfl ?_
  refine AtL.load tf_flat4 (.inl rfl) rfl rfl (Cell.own 0 0 rfl rfl rfl) ?_
  refine AtL.assign (.inl rfl) rfl rfl ?_
  refine AtL.done ?_
  exact At.ret Try.func51 rfl rfl (⟨rfl, rfl⟩)

set_option maxHeartbeats 400000 in
theorem broken_ok {w0 : World} {base : Nat} {H : List Seg} {b : Nat} {vb : Value} {hello off out gr sh : Bool} :
    SCalls Try.prog 49 [.pointer (some ⟨b, 0, none⟩)] w0 base ([(b, .cells #[vb, .bool hello, .bool off, .bool out, .bool gr, .bool sh] 61 (0, 0))] :: H) (fun v H' => v = .bool out ∧ H' = [(b, .cells #[vb, .bool hello, .bool off, .bool out, .bool gr, .bool sh] 61 (0, 0))] :: H) := by
  refine SCalls.of_walk (n := 7) Try.func49 rfl rfl rfl fun cs => ?_
  refine At.seq ?_
  refine At.region ?_
  refine AtL.assign (.inl rfl) rfl rfl ?_
  refine AtL.done ?_
  refine At.seq ?_
  refine At.region ?_
  refine AtL.move (.inl rfl) rfl rfl ?_
  refine AtL.nilCheck (.inl rfl) rfl rfl ?_
  refine AtL.fieldAddrB tf_fo61_3 (.inl rfl) rfl rfl rfl ?_
  refine AtL.load tf_flat4 (.inl rfl) rfl rfl (Cell.own 0 0 rfl rfl rfl) ?_
  refine AtL.assign (.inl rfl) rfl rfl ?_
  refine AtL.done ?_
  exact At.ret Try.func49 rfl rfl (⟨rfl, rfl⟩)

set_option maxHeartbeats 400000 in
theorem left_ok {w0 : World} {base : Nat} {H : List Seg} {b : Nat} {y : Sl tyB 5} {hello off out gr sh : Bool} :
    SCalls Try.prog 52 [.pointer (some ⟨b, 0, none⟩)] w0 base ([(b, .cells #[.slice y.A y.l.length y.C, .bool hello, .bool off, .bool out, .bool gr, .bool sh] 61 (0, 0))] :: H) (fun v H' => v = int (y.l.length : Int) ∧ H' = [(b, .cells #[.slice y.A y.l.length y.C, .bool hello, .bool off, .bool out, .bool gr, .bool sh] 61 (0, 0))] :: H) := by
  refine SCalls.of_walk (n := 8) Try.func52 rfl rfl rfl fun cs => ?_
  refine At.seq ?_
  refine At.region ?_
  refine AtL.assign (.inl rfl) rfl rfl ?_
  refine AtL.done ?_
  refine At.seq ?_
  refine At.region ?_
  refine AtL.move (.inl rfl) rfl rfl ?_
  refine AtL.nilCheck (.inl rfl) rfl rfl ?_
  refine AtL.fieldAddrB tf_fo61_0 (.inl rfl) rfl rfl rfl ?_
  refine AtL.load tf_flat59 (.inl rfl) rfl rfl (Cell.own 0 0 rfl rfl rfl) ?_
  refine AtL.lenL Try.underlying59 (.inl rfl) rfl rfl ?_
  refine AtL.assign (.inl rfl) rfl rfl ?_
  refine AtL.done ?_
  exact At.ret Try.func52 rfl rfl (⟨rfl, rfl⟩)

set_option maxHeartbeats 400000 in
theorem sealed_ok {w0 : World} {base : Nat} {H : List Seg}  :
    SCalls Try.prog 25 [] w0 base (H) (fun v H' => ∃ b : Nat, v = .iface 58 (.pointer (some ⟨b, 0, none⟩)) ∧ H' = [(b, .cells #[.slice none 0 0, .bool false, .bool false, .bool false, .bool false, .bool false] 61 (0, 0))] :: H) := by
  refine SCalls.of_walk (n := 4) Try.func25 rfl rfl rfl fun cs => ?_
  refine At.seq ?_
  refine At.region ?_
  refine AtL.assign (.inl rfl) rfl rfl ?_
  refine AtL.done ?_
  refine At.seq ?_
  refine At.region ?_
  refine AtL.build (cs := [.slice none 0 0, .bool false, .bool false, .bool false, .bool false, .bool false]) tf_lay61 (.inl rfl) rfl rfl rfl ?_
  refine AtL.box (cs := #[.slice none 0 0, .bool false, .bool false, .bool false, .bool false, .bool false]) rfl (.inl rfl) rfl rfl ?_
  intro b1
  refine AtL.makeIface Try.underlying58 rfl (.inl rfl) rfl rfl ?_
  refine AtL.assign (.inl rfl) rfl rfl ?_
  refine AtL.done ?_
  exact At.ret Try.func25 rfl rfl (⟨_, rfl, rfl⟩)

set_option maxHeartbeats 400000 in
theorem plain_ok {w0 : World} {base : Nat} {H : List Seg}  :
    SCalls Try.prog 26 [] w0 base (H) (fun v H' => ∃ b : Nat, v = .iface 62 (.pointer (some ⟨b, 0, none⟩)) ∧ H' = [(b, .cells #[.bool false] 64 (0, 0))] :: H) := by
  refine SCalls.of_walk (n := 4) Try.func26 rfl rfl rfl fun cs => ?_
  refine At.seq ?_
  refine At.region ?_
  refine AtL.assign (.inl rfl) rfl rfl ?_
  refine AtL.done ?_
  refine At.seq ?_
  refine At.region ?_
  refine AtL.build (cs := [.bool false]) tf_lay64 (.inl rfl) rfl rfl rfl ?_
  refine AtL.box (cs := #[.bool false]) rfl (.inl rfl) rfl rfl ?_
  intro b1
  refine AtL.makeIface Try.underlying62 rfl (.inl rfl) rfl rfl ?_
  refine AtL.assign (.inl rfl) rfl rfl ?_
  refine AtL.done ?_
  exact At.ret Try.func26 rfl rfl (⟨_, rfl, rfl⟩)

set_option maxHeartbeats 400000 in
theorem pleft_ok {w0 : World} {base : Nat} {H : List Seg} {b : Nat} :
    SCalls Try.prog 70 [.pointer (some ⟨b, 0, none⟩)] w0 base (H) (fun v H' => v = .int .i64 0 ∧ H' = H) := by
  refine SCalls.of_walk (n := 3) Try.func70 rfl rfl rfl fun cs => ?_
  refine At.seq ?_
  refine At.region ?_
  refine AtL.assign (.inl rfl) rfl rfl ?_
  refine AtL.done ?_
  refine At.seq ?_
  refine At.region ?_
  refine AtL.assign (.inl rfl) rfl rfl ?_
  refine AtL.done ?_
  exact At.ret Try.func70 rfl rfl (⟨rfl, rfl⟩)

set_option maxHeartbeats 400000 in
theorem pended_ok {w0 : World} {base : Nat} {H : List Seg} {b : Nat} :
    SCalls Try.prog 69 [.pointer (some ⟨b, 0, none⟩)] w0 base (H) (fun v H' => v = .bool false ∧ H' = H) := by
  refine SCalls.of_walk (n := 3) Try.func69 rfl rfl rfl fun cs => ?_
  refine At.seq ?_
  refine At.region ?_
  refine AtL.assign (.inl rfl) rfl rfl ?_
  refine AtL.done ?_
  refine At.seq ?_
  refine At.region ?_
  refine AtL.assign (.inl rfl) rfl rfl ?_
  refine AtL.done ?_
  exact At.ret Try.func69 rfl rfl (⟨rfl, rfl⟩)

set_option maxHeartbeats 400000 in
theorem pbroken_ok {w0 : World} {base : Nat} {H : List Seg} {b : Nat} :
    SCalls Try.prog 67 [.pointer (some ⟨b, 0, none⟩)] w0 base (H) (fun v H' => v = .bool false ∧ H' = H) := by
  refine SCalls.of_walk (n := 3) Try.func67 rfl rfl rfl fun cs => ?_
  refine At.seq ?_
  refine At.region ?_
  refine AtL.assign (.inl rfl) rfl rfl ?_
  refine AtL.done ?_
  refine At.seq ?_
  refine At.region ?_
  refine AtL.assign (.inl rfl) rfl rfl ?_
  refine AtL.done ?_
  exact At.ret Try.func67 rfl rfl (⟨rfl, rfl⟩)

set_option maxHeartbeats 400000 in
theorem pclose_ok {w0 : World} {base : Nat} {H : List Seg} {b : Nat} {sh : Bool} :
    SCalls Try.prog 68 [.pointer (some ⟨b, 0, none⟩)] w0 base ([(b, .cells #[.bool sh] 64 (0, 0))] :: H) (fun v H' => v = .slice none 0 0 ∧ H' = [(b, .cells #[.bool true] 64 (0, 0))] :: H) := by
  refine SCalls.of_walk (n := 6) Try.func68 rfl rfl rfl fun cs => ?_
  refine At.seq ?_
  refine At.region ?_
  refine AtL.assign (.inl rfl) rfl rfl ?_
  refine AtL.done ?_
  refine At.seq ?_
  refine At.region ?_
  refine AtL.move (.inl rfl) rfl rfl ?_
  refine AtL.nilCheck (.inl rfl) rfl rfl ?_
  refine AtL.fieldAddrB tf_fo64_0 (.inl rfl) rfl rfl rfl ?_
  refine AtL.store (H' := [(b, .cells #[.bool true] 64 (0, 0))] :: H) 0 0 tf_sz4 (.inl rfl) rfl rfl rfl rfl rfl rfl rfl rfl rfl ?_
  refine AtL.done ?_
  refine At.seq ?_
  refine At.region ?_
  refine AtL.assign (.inl rfl) rfl rfl ?_
  refine AtL.done ?_
  exact At.ret Try.func68 rfl rfl (⟨rfl, rfl⟩)

end Go.Proofs.Ytllfgcekebafhaa
