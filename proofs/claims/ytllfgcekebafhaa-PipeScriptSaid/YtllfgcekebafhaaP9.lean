/- The chapter's examples, awake. -/
import Derived.Test.YtllfgcekebafhaaP8
namespace Go.Proofs.Ytllfgcekebafhaa
set_option linter.unusedVariables false
set_option linter.unusedSimpArgs false
set_option maxRecDepth 100000

set_option maxHeartbeats 400000 in
theorem rpushp_ok {w0 : World} {base : Nat} {H : List Seg} {b : Nat} {vb : Value} {hello gr sh : Bool} {A : Option Addr} {C : Nat} {l : List UInt8} (h : Rd tyB w0 base H A C l) (hl : l.length ≤ 140737488355000) :
    SCalls Try.prog 24 [.pointer (some ⟨b, 0, none⟩), .slice A l.length C] w0 base ([(b, .cells #[.bool false, vb, .bool hello, .bool false, .bool false, .bool gr, .bool sh] 44 (0, 0))] :: H) (fun v H' => ∃ x : Sl tyB 5, x.l = l ∧ v = .tuple #[.slice x.A x.l.length x.C, int 0] ∧ H' = x.s :: [(b, .cells #[.bool false, vb, .bool hello, .bool false, .bool false, .bool gr, .bool sh] 44 (0, 0))] :: H) := by
  refine SCalls.of_walk (n := 81) Try.func24 rfl rfl rfl fun cs => ?_
  refine At.seq ?_
  refine At.region ?_
  refine AtL.assign (.inl rfl) rfl rfl ?_
  refine AtL.assign (.inl rfl) rfl rfl ?_
  refine AtL.done ?_
  refine At.seq ?_
  refine At.seq ?_
  refine At.region ?_
  refine AtL.move (.inl rfl) rfl rfl ?_
  refine AtL.nilCheck (.inl rfl) rfl rfl ?_
  refine AtL.fieldAddrB tf_fo44_3 (.inl rfl) rfl rfl rfl ?_
  refine AtL.load tf_flat4 (.inl rfl) rfl rfl (Cell.own 0 0 rfl rfl rfl) ?_
  refine AtL.move (.inl rfl) rfl rfl ?_
  refine AtL.move (.inr ⟨_, _, _, rfl, rfl, rfl, rfl⟩) rfl rfl ?_
  refine AtL.nilCheck (.inr ⟨_, _, _, rfl, rfl, rfl, rfl⟩) rfl rfl ?_
  refine AtL.fieldAddrB tf_fo44_4 (.inr ⟨_, _, _, rfl, rfl, rfl, rfl⟩) rfl rfl rfl ?_
  refine AtL.load tf_flat4 (.inr ⟨_, _, _, rfl, rfl, rfl, rfl⟩) rfl rfl (Cell.own 0 0 rfl rfl rfl) ?_
  refine AtL.pickF (.inl rfl) rfl rfl rfl ?_
  refine AtL.done ?_
  refine At.condF rfl ?_
  refine At.skip ?_
  refine At.seq ?_
  refine At.seq ?_
  refine At.region ?_
  refine AtL.move (.inl rfl) rfl rfl ?_
  refine AtL.nilCheck (.inl rfl) rfl rfl ?_
  refine AtL.fieldAddrB tf_fo44_0 (.inl rfl) rfl rfl rfl ?_
  refine AtL.load tf_flat4 (.inl rfl) rfl rfl (Cell.own 0 0 rfl rfl rfl) ?_
  refine AtL.not (.inl rfl) rfl rfl ?_
  refine AtL.done ?_
  refine At.condT rfl ?_
  refine At.seq ?_
  refine At.region ?_
  refine AtL.buildSlice (cs := []) Try.underlying22 tf_zero5 tf_sz5 rfl rfl (.inl rfl) rfl rfl rfl ?_
  intro b1
  refine AtL.own1 tyB (l := ([] : List UInt8)) rfl rfl (by first | decide | simp) ?_
  intro s2 o3
  refine AtL.move (.inl rfl) rfl rfl ?_
  refine AtL.append (l := []) (news := l) 0 tf_el22 rfl o3 (Rd.skip 2 h) (by first | omega | (simp only [List.length_append, List.length_cons, List.length_nil]; omega) | (simp; done) | (simp; omega)) (.inl rfl) rfl rfl rfl ?_
  intro A4 C5 s6 o7
  refine AtL.assign (.inl rfl) rfl rfl ?_
  refine AtL.assign (.inl rfl) rfl rfl ?_
  refine AtL.done ?_
  exact At.ret Try.func24 rfl rfl (⟨⟨A4, C5, [] ++ l, s6, o7⟩, rfl, rfl, rfl⟩)

theorem recs_small {l : List UInt8} (h : 0 < l.length) (h2 : l.length ≤ 1024) : recs l = recB 2 l := by
  rw [recs_more h, List.take_of_length_le h2, List.drop_eq_nil_of_le h2, recs_nil, List.append_nil]
theorem awake_a : sendF false false [7, 8] = [1, 0, 1, 1, 2, 0, 2, 7, 8] := by
  rw [sendF, if_neg (by decide), recs_small (by decide) (by decide)]; decide
theorem awake_b : sendF (sentF true false false [7, 8]) false [9] = [2, 0, 1, 9] := by
  rw [sendF, if_neg (by decide), recs_small (by decide) (by decide)]; decide

set_option maxHeartbeats 400000 in
theorem awake_ok {w0 : World} {base : Nat} {H : List Seg}  :
    SCalls Try.prog 9 [] w0 base (H) (fun v H' => v = .bool true ∧ H' = H) := by
  refine SCalls.of_walk (n := 37) Try.func9 rfl rfl rfl fun cs => ?_
  refine At.seq ?_
  refine At.region ?_
  refine AtL.assign (.inl rfl) rfl rfl ?_
  refine AtL.done ?_
  refine At.seq ?_
  refine At.region ?_
  refine AtL.call tf_body25 (.inl rfl) rfl rfl sealed_ok ?_
  rintro _ _ ⟨b1, rfl, rfl⟩
  refine AtL.assign (.inl rfl) rfl rfl ?_
  refine AtL.done ?_
  refine At.seq ?_
  refine At.seq ?_
  refine At.region ?_
  refine AtL.move (.inl rfl) rfl rfl ?_
  refine AtL.eqIfaceNil Try.underlying39 (.inl rfl) rfl rfl rfl ?_
  refine AtL.done ?_
  refine At.condF rfl ?_
  refine At.skip ?_
  refine At.seq ?_
  refine At.region ?_
  refine AtL.move (.inl rfl) rfl rfl ?_
  refine AtL.buildSlice (cs := [.int .u8 7, .int .u8 8]) Try.underlying22 tf_zero5 tf_sz5 rfl rfl (.inl rfl) rfl rfl rfl ?_
  intro b2
  refine AtL.own1 tyB (l := ([7, 8] : List UInt8)) rfl rfl (by first | decide | simp) ?_
  intro s3 o4
  refine AtL.pick (H' := [(b1, .cells #[.slice none 0 0, .bool false, .bool false, .bool false, .bool false, .bool false] 61 (0, 0))] :: s3 :: H) [1, 0] 2 rfl rfl ?_
  refine AtL.callI tf_body54 (.inl rfl) rfl rfl rfl (fun w => by kernel_rfl) (send_ok (l := [7, 8]) (o4.rd (i := 0) rfl) (by first | omega | (simp only [List.length_append, List.length_cons, List.length_nil]; omega) | (simp; done) | (simp; omega))) ?_
  rintro _ _ ⟨⟨A5, C6, l7, s8, o9⟩, hx10, rfl, rfl⟩
  obtain rfl : sendF false false [7, 8] = l7 := hx10.symm
  refine AtL.move (.inl rfl) rfl rfl ?_
  refine AtL.buildSlice (cs := [.int .u8 9]) Try.underlying22 tf_zero5 tf_sz5 rfl rfl (.inl rfl) rfl rfl rfl ?_
  intro b11
  refine AtL.own1 tyB (l := ([9] : List UInt8)) rfl rfl (by first | decide | simp) ?_
  intro s12 o13
  refine AtL.pick (H' := [(b1, .cells #[.slice none 0 0, .bool false, .bool false, .bool false, .bool (sentF true false false [7, 8]), .bool false] 61 (0, 0))] :: s12 :: s8 :: s3 :: H) [2, 0, 1, 3] 4 rfl rfl ?_
  refine AtL.callI tf_body54 (.inl rfl) rfl rfl rfl (fun w => by kernel_rfl) (send_ok (l := [9]) (o13.rd (i := 0) rfl) (by first | omega | (simp only [List.length_append, List.length_cons, List.length_nil]; omega) | (simp; done) | (simp; omega))) ?_
  rintro _ _ ⟨⟨A14, C15, l16, s17, o18⟩, hx19, rfl, rfl⟩
  obtain rfl : sendF (sentF true false false [7, 8]) false [9] = l16 := hx19.symm
  refine AtL.move (.inl rfl) rfl rfl ?_
  refine AtL.pick (H' := [(b1, .cells #[.slice none 0 0, .bool false, .bool false, .bool false, .bool (sentF true (sentF true false false [7, 8]) false [9]), .bool false] 61 (0, 0))] :: s17 :: s12 :: s8 :: s3 :: H) [1, 0, 2, 3, 4] 5 rfl rfl ?_
  refine AtL.callI tf_body50 (.inl rfl) rfl rfl rfl (fun w => by kernel_rfl) close_ok ?_
  rintro _ _ ⟨⟨A20, C21, l22, s23, o24⟩, hx25, rfl, rfl⟩
  obtain rfl : closeF (sentF true (sentF true false false [7, 8]) false [9]) false = l22 := hx25.symm
  refine AtL.move (.inl rfl) rfl rfl ?_
  refine AtL.pick (H' := [(b1, .cells #[.slice none 0 0, .bool false, .bool false, .bool false, .bool (closedF true (sentF true (sentF true false false [7, 8]) false [9]) false), .bool true] 61 (0, 0))] :: s23 :: s17 :: s12 :: s8 :: s3 :: H) [1, 0, 2, 3, 4, 5] 6 rfl rfl ?_
  refine AtL.callI tf_body50 (.inl rfl) rfl rfl rfl (fun w => by kernel_rfl) close_ok ?_
  rintro _ _ ⟨⟨A26, C27, l28, s29, o30⟩, hx31, rfl, rfl⟩
  obtain rfl : closeF (closedF true (sentF true (sentF true false false [7, 8]) false [9]) false) true = l28 := hx31.symm
  refine AtL.assign (.inl rfl) rfl rfl ?_
  refine AtL.assign (.inl rfl) rfl rfl ?_
  refine AtL.assign (.inl rfl) rfl rfl ?_
  refine AtL.assign (.inl rfl) rfl rfl ?_
  refine AtL.done ?_
  refine At.seq ?_
  refine At.region ?_
  refine AtL.move (.inl rfl) rfl rfl ?_
  refine AtL.buildSlice (cs := [.int .u8 1, .int .u8 0, .int .u8 1, .int .u8 1, .int .u8 2, .int .u8 0, .int .u8 2, .int .u8 7, .int .u8 8]) Try.underlying22 tf_zero5 tf_sz5 rfl rfl (.inl rfl) rfl rfl rfl ?_
  intro b32
  refine AtL.own1 tyB (l := ([1, 0, 1, 1, 2, 0, 2, 7, 8] : List UInt8)) rfl rfl (by first | decide | simp) ?_
  intro s33 o34
  refine AtL.call tf_body13 (.inl rfl) rfl rfl (same_ok (l := sendF false false [7, 8]) (l2 := [1, 0, 1, 1, 2, 0, 2, 7, 8]) (o9.rd (i := 6) rfl) (o34.rd (i := 0) rfl)) ?_
  rintro _ _ ⟨rfl, rfl⟩
  refine AtL.move (.inl rfl) rfl rfl ?_
  refine AtL.split (t := 22) rfl ?_ ?_
  · intro hs22
    have hs22 : sendF false false [7, 8] = [1, 0, 1, 1, 2, 0, 2, 7, 8] := of_decide_eq_true hs22
    refine AtL.move (.inr ⟨_, _, _, rfl, rfl, rfl, rfl⟩) rfl rfl ?_
    refine AtL.buildSlice (cs := [.int .u8 2, .int .u8 0, .int .u8 1, .int .u8 9]) Try.underlying22 tf_zero5 tf_sz5 rfl rfl (.inr ⟨_, _, _, rfl, rfl, rfl, rfl⟩) rfl rfl rfl ?_
    intro b35
    refine AtL.own1 tyB (l := ([2, 0, 1, 9] : List UInt8)) rfl rfl (by first | decide | simp) ?_
    intro s36 o37
    refine AtL.call tf_body13 (.inr ⟨_, _, _, rfl, rfl, rfl, rfl⟩) rfl rfl (same_ok (l := sendF (sentF true false false [7, 8]) false [9]) (l2 := [2, 0, 1, 9]) (o18.rd (i := 5) rfl) (o37.rd (i := 0) rfl)) ?_
    rintro _ _ ⟨rfl, rfl⟩
    refine AtL.pickT (.inl rfl) rfl rfl rfl ?_
    refine AtL.move (.inl rfl) rfl rfl ?_
    refine AtL.split (t := 27) rfl ?_ ?_
    · intro hs27
      have hs27 : sendF (sentF true false false [7, 8]) false [9] = [2, 0, 1, 9] := of_decide_eq_true hs27
      refine AtL.move (.inr ⟨_, _, _, rfl, rfl, rfl, rfl⟩) rfl rfl ?_
      refine AtL.buildSlice (cs := [.int .u8 3, .int .u8 0, .int .u8 0]) Try.underlying22 tf_zero5 tf_sz5 rfl rfl (.inr ⟨_, _, _, rfl, rfl, rfl, rfl⟩) rfl rfl rfl ?_
      intro b38
      refine AtL.own1 tyB (l := ([3, 0, 0] : List UInt8)) rfl rfl (by first | decide | simp) ?_
      intro s39 o40
      refine AtL.call tf_body13 (.inr ⟨_, _, _, rfl, rfl, rfl, rfl⟩) rfl rfl (same_ok (l := closeF (sentF true (sentF true false false [7, 8]) false [9]) false) (l2 := [3, 0, 0]) (o24.rd (i := 5) rfl) (o40.rd (i := 0) rfl)) ?_
      rintro _ _ ⟨rfl, rfl⟩
      refine AtL.pickT (.inl rfl) rfl rfl rfl ?_
      refine AtL.move (.inl rfl) rfl rfl ?_
      refine AtL.split (t := 32) rfl ?_ ?_
      · intro hs32
        have hs32 : closeF (sentF true (sentF true false false [7, 8]) false [9]) false = [3, 0, 0] := of_decide_eq_true hs32
        refine AtL.move (.inr ⟨_, _, _, rfl, rfl, rfl, rfl⟩) rfl rfl ?_
        refine AtL.lenL Try.underlying22 (.inr ⟨_, _, _, rfl, rfl, rfl, rfl⟩) rfl rfl ?_
        refine AtL.eqi (.inr ⟨_, _, _, rfl, rfl, rfl, rfl⟩) rfl rfl rfl ?_
        refine AtL.pickT (.inl rfl) rfl rfl rfl ?_
        refine AtL.assign (.inl rfl) rfl rfl ?_
        refine AtL.done ?_
        refine At.pick (H' := H) [] 10 rfl rfl ?_
        exact At.ret Try.func9 rfl rfl (⟨congrArg Value.bool (by simp [closeF]), rfl⟩)
      · intro hs32
        have hs32 : ¬ (closeF (sentF true (sentF true false false [7, 8]) false [9]) false = [3, 0, 0]) := of_decide_eq_false hs32
        exact absurd (by decide) hs32
    · intro hs27
      have hs27 : ¬ (sendF (sentF true false false [7, 8]) false [9] = [2, 0, 1, 9]) := of_decide_eq_false hs27
      exact absurd awake_b hs27
  · intro hs22
    have hs22 : ¬ (sendF false false [7, 8] = [1, 0, 1, 1, 2, 0, 2, 7, 8]) := of_decide_eq_false hs22
    exact absurd awake_a hs22

end Go.Proofs.Ytllfgcekebafhaa
