/- The other laws of pipes, walked. -/
import Derived.Test.YtllfgcekebafhaaP10
namespace Go.Proofs.Ytllfgcekebafhaa
set_option linter.unusedVariables false
set_option linter.unusedSimpArgs false
set_option maxRecDepth 100000

theorem known_a : pushS false false false [] [1, 0, 1, 1, 2, 0, 2, 7] = ⟨[], 0, [2, 0, 2, 7], true, false⟩ := by
  have h1 : oneF false [1, 0, 1, 1, 2, 0, 2, 7] = ⟨0, 4, [], true, false⟩ := rfl
  have h2 : oneF true [2, 0, 2, 7] = ⟨0, 0, [], true, false⟩ := rfl
  rw [pushS, if_neg (by decide), List.nil_append, push_more (by rw [h1]) (by rw [h1]) (by rw [h1]; decide), h1]
  dsimp only [List.drop]
  rw [push_none (by rw [h2]) (by rw [h2]) (by rw [h2]), h2]
  rfl
theorem known_a2 : brokeS false false false [] [1, 0, 1, 1, 2, 0, 2, 7] = false := by
  have h := known_a
  rw [pushS, if_neg (by decide)] at h
  rw [brokeS, if_neg (by decide), h]
  rfl
theorem known_b : pushS true false false [2, 0, 2, 7] [8, 3, 0, 0, 5] = ⟨[7, 8], 0, [], true, true⟩ := by
  have h1 : oneF true [2, 0, 2, 7, 8, 3, 0, 0, 5] = ⟨0, 5, [7, 8], true, false⟩ := rfl
  have h2 : oneF true [3, 0, 0, 5] = ⟨0, 3, [], true, true⟩ := rfl
  rw [pushS, if_neg (by decide)]
  show pushF true [2, 0, 2, 7, 8, 3, 0, 0, 5] = _
  rw [push_more (by rw [h1]) (by rw [h1]) (by rw [h1]; decide), h1]
  dsimp only [List.drop]
  rw [push_off (by rw [h2]) (by rw [h2]), h2]
  rfl
theorem known_d : pushS false false false [] [2, 0, 0] = ⟨[], 4, [], false, false⟩ := by
  have h1 : oneF false [2, 0, 0] = ⟨4, 0, [], false, false⟩ := rfl
  rw [pushS, if_neg (by decide), List.nil_append, push_err (by rw [h1]; decide), h1]
theorem known_d2 : brokeS false false false [] [2, 0, 0] = true := by
  have h := known_d
  rw [pushS, if_neg (by decide)] at h
  rw [brokeS, if_neg (by decide), h]
  rfl
theorem known_e : (pushS false false false [] [1, 0, 1, 1, 2, 255, 0]).e = 3 := by
  have h1 : oneF false [1, 0, 1, 1, 2, 255, 0] = ⟨0, 4, [], true, false⟩ := rfl
  have h2 : oneF true [2, 255, 0] = ⟨3, 0, [], true, false⟩ := rfl
  rw [pushS, if_neg (by decide), List.nil_append, push_more (by rw [h1]) (by rw [h1]) (by rw [h1]; decide), h1]
  dsimp only [List.drop]
  rw [push_err (by rw [h2]; decide), h2]
theorem send_len (g sh : Bool) (l : List UInt8) : (sendF g sh l).length ≤ 4 + 4 * l.length := by
  unfold sendF
  split
  · simp
  · have := greet_len g
    have := recs_len l
    simp; omega
theorem close_len (g sh : Bool) : (closeF g sh).length ≤ 7 := by cases g <;> cases sh <;> decide

set_option maxHeartbeats 400000 in
theorem known_ok {w0 : World} {base : Nat} {H : List Seg}  :
    SCalls Try.prog 6 [] w0 base (H) (fun v H' => v = .bool true ∧ H' = H) := by
  refine SCalls.of_walk (n := 138) Try.func6 rfl rfl rfl fun cs => ?_
  refine At.seq ?_
  refine At.region ?_
  refine AtL.assign (.inl rfl) rfl rfl ?_
  refine AtL.done ?_
  refine At.seq ?_
  refine At.region ?_
  refine AtL.call tf_body25 (.inl rfl) rfl rfl sealed_ok ?_
  rintro _ _ ⟨b1, rfl, rfl⟩
  refine AtL.call tf_body25 (.inl rfl) rfl rfl sealed_ok ?_
  rintro _ _ ⟨b2, rfl, rfl⟩
  refine AtL.call tf_body25 (.inl rfl) rfl rfl sealed_ok ?_
  rintro _ _ ⟨b3, rfl, rfl⟩
  refine AtL.call tf_body26 (.inl rfl) rfl rfl plain_ok ?_
  rintro _ _ ⟨b4, rfl, rfl⟩
  refine AtL.assign (.inl rfl) rfl rfl ?_
  refine AtL.assign (.inl rfl) rfl rfl ?_
  refine AtL.assign (.inl rfl) rfl rfl ?_
  refine AtL.assign (.inl rfl) rfl rfl ?_
  refine AtL.done ?_
  refine At.seq ?_
  refine At.seq ?_
  refine At.region ?_
  refine AtL.move (.inl rfl) rfl rfl ?_
  refine AtL.eqIfaceNil Try.underlying39 (.inl rfl) rfl rfl rfl ?_
  refine AtL.move (.inl rfl) rfl rfl ?_
  refine AtL.move (.inr ⟨_, _, _, rfl, rfl, rfl, rfl⟩) rfl rfl ?_
  refine AtL.eqIfaceNil Try.underlying39 (.inr ⟨_, _, _, rfl, rfl, rfl, rfl⟩) rfl rfl rfl ?_
  refine AtL.pickF (.inl rfl) rfl rfl rfl ?_
  refine AtL.move (.inl rfl) rfl rfl ?_
  refine AtL.move (.inr ⟨_, _, _, rfl, rfl, rfl, rfl⟩) rfl rfl ?_
  refine AtL.eqIfaceNil Try.underlying39 (.inr ⟨_, _, _, rfl, rfl, rfl, rfl⟩) rfl rfl rfl ?_
  refine AtL.pickF (.inl rfl) rfl rfl rfl ?_
  refine AtL.move (.inl rfl) rfl rfl ?_
  refine AtL.move (.inr ⟨_, _, _, rfl, rfl, rfl, rfl⟩) rfl rfl ?_
  refine AtL.eqIfaceNil Try.underlying39 (.inr ⟨_, _, _, rfl, rfl, rfl, rfl⟩) rfl rfl rfl ?_
  refine AtL.pickF (.inl rfl) rfl rfl rfl ?_
  refine AtL.done ?_
  refine At.condF rfl ?_
  refine At.skip ?_
  refine At.seq ?_
  refine At.region ?_
  refine AtL.move (.inl rfl) rfl rfl ?_
  refine AtL.buildSlice (cs := [.int .u8 1, .int .u8 0, .int .u8 1, .int .u8 1, .int .u8 2, .int .u8 0, .int .u8 2, .int .u8 7]) Try.underlying22 tf_zero5 tf_sz5 rfl rfl (.inl rfl) rfl rfl rfl ?_
  intro b5
  refine AtL.own1 tyB (l := ([1, 0, 1, 1, 2, 0, 2, 7] : List UInt8)) rfl rfl (by first | decide | simp) ?_
  intro s6 o7
  refine AtL.nil ?_
  refine AtL.pick (H' := [] :: [(b1, .cells #[.slice none 0 0, .bool false, .bool false, .bool false, .bool false, .bool false] 61 (0, 0))] :: s6 :: [(b4, .cells #[.bool false] 64 (0, 0))] :: [(b3, .cells #[.slice none 0 0, .bool false, .bool false, .bool false, .bool false, .bool false] 61 (0, 0))] :: [(b2, .cells #[.slice none 0 0, .bool false, .bool false, .bool false, .bool false, .bool false] 61 (0, 0))] :: H) [0, 5, 1, 2, 3, 4] 6 rfl rfl ?_
  refine AtL.callI tf_body53 (.inl rfl) rfl rfl rfl (fun w => by kernel_rfl) (push_ok (y := Sl.nil) (l := [1, 0, 1, 1, 2, 0, 2, 7]) (o7.rd (i := 0) rfl) (by first | omega | (simp only [List.length_append, List.length_cons, List.length_nil, Sl.nil, known_a]; omega) | (simp [Sl.nil, known_a]; done) | (simp [Sl.nil, known_a]; omega))) ?_
  rintro _ _ ⟨⟨A8, C9, l10, s11, o12⟩, ⟨A14, C15, l16, s17, o18⟩, hx13, hx19, rfl, rfl⟩
  obtain rfl : (pushS false false false ([] : List UInt8) [1, 0, 1, 1, 2, 0, 2, 7]).out = l10 := hx13.symm
  obtain rfl : (pushS false false false ([] : List UInt8) [1, 0, 1, 1, 2, 0, 2, 7]).rest = l16 := hx19.symm
  refine AtL.move (.inl rfl) rfl rfl ?_
  refine AtL.extract (.inl rfl) rfl rfl rfl ?_
  refine AtL.extract (.inl rfl) rfl rfl rfl ?_
  refine AtL.assign (.inl rfl) rfl rfl ?_
  refine AtL.assign (.inl rfl) rfl rfl ?_
  refine AtL.done ?_
  refine At.seq ?_
  refine At.region ?_
  refine AtL.move (.inl rfl) rfl rfl ?_
  refine AtL.pick (H' := [(b1, .cells #[.slice A14 ((pushS false false false ([] : List UInt8) [1, 0, 1, 1, 2, 0, 2, 7]).rest).length C15, .bool ((pushS false false false ([] : List UInt8) [1, 0, 1, 1, 2, 0, 2, 7]).h), .bool ((pushS false false false ([] : List UInt8) [1, 0, 1, 1, 2, 0, 2, 7]).off), .bool (brokeS false false false ([] : List UInt8) [1, 0, 1, 1, 2, 0, 2, 7]), .bool false, .bool false] 61 (0, 0))] :: s11 :: s17 :: s6 :: [(b4, .cells #[.bool false] 64 (0, 0))] :: [(b3, .cells #[.slice none 0 0, .bool false, .bool false, .bool false, .bool false, .bool false] 61 (0, 0))] :: [(b2, .cells #[.slice none 0 0, .bool false, .bool false, .bool false, .bool false, .bool false] 61 (0, 0))] :: H) [2, 0, 1, 3, 4, 5, 6] 7 rfl rfl ?_
  refine AtL.callI tf_body52 (.inl rfl) rfl rfl rfl (fun w => by kernel_rfl) (left_ok (y := ⟨A14, C15, (pushS false false false ([] : List UInt8) [1, 0, 1, 1, 2, 0, 2, 7]).rest, s17, o18⟩)) ?_
  rintro _ _ ⟨rfl, rfl⟩
  refine AtL.assign (.inl rfl) rfl rfl ?_
  refine AtL.done ?_
  refine At.seq ?_
  refine At.region ?_
  refine AtL.move (.inl rfl) rfl rfl ?_
  refine AtL.buildSlice (cs := [.int .u8 8, .int .u8 3, .int .u8 0, .int .u8 0, .int .u8 5]) Try.underlying22 tf_zero5 tf_sz5 rfl rfl (.inl rfl) rfl rfl rfl ?_
  intro b20
  refine AtL.own1 tyB (l := ([8, 3, 0, 0, 5] : List UInt8)) rfl rfl (by first | decide | simp) ?_
  intro s21 o22
  refine AtL.pick (H' := s17 :: [(b1, .cells #[.slice A14 ((pushS false false false ([] : List UInt8) [1, 0, 1, 1, 2, 0, 2, 7]).rest).length C15, .bool ((pushS false false false ([] : List UInt8) [1, 0, 1, 1, 2, 0, 2, 7]).h), .bool ((pushS false false false ([] : List UInt8) [1, 0, 1, 1, 2, 0, 2, 7]).off), .bool (brokeS false false false ([] : List UInt8) [1, 0, 1, 1, 2, 0, 2, 7]), .bool false, .bool false] 61 (0, 0))] :: s21 :: s11 :: s6 :: [(b4, .cells #[.bool false] 64 (0, 0))] :: [(b3, .cells #[.slice none 0 0, .bool false, .bool false, .bool false, .bool false, .bool false] 61 (0, 0))] :: [(b2, .cells #[.slice none 0 0, .bool false, .bool false, .bool false, .bool false, .bool false] 61 (0, 0))] :: H) [3, 1, 0, 2, 4, 5, 6, 7] 8 rfl rfl ?_
  refine AtL.callI tf_body53 (.inl rfl) rfl rfl rfl (fun w => by kernel_rfl) (push_ok (y := ⟨A14, C15, (pushS false false false ([] : List UInt8) [1, 0, 1, 1, 2, 0, 2, 7]).rest, s17, o18⟩) (l := [8, 3, 0, 0, 5]) (o22.rd (i := 0) rfl) (by first | omega | (simp only [List.length_append, List.length_cons, List.length_nil, Sl.nil, known_a]; omega) | (simp [Sl.nil, known_a]; done) | (simp [Sl.nil, known_a]; omega))) ?_
  rintro _ _ ⟨⟨A23, C24, l25, s26, o27⟩, ⟨A29, C30, l31, s32, o33⟩, hx28, hx34, rfl, rfl⟩
  obtain rfl : (pushS ((pushS false false false ([] : List UInt8) [1, 0, 1, 1, 2, 0, 2, 7]).h) ((pushS false false false ([] : List UInt8) [1, 0, 1, 1, 2, 0, 2, 7]).off) (brokeS false false false ([] : List UInt8) [1, 0, 1, 1, 2, 0, 2, 7]) ((pushS false false false ([] : List UInt8) [1, 0, 1, 1, 2, 0, 2, 7]).rest) [8, 3, 0, 0, 5]).out = l25 := hx28.symm
  obtain rfl : (pushS ((pushS false false false ([] : List UInt8) [1, 0, 1, 1, 2, 0, 2, 7]).h) ((pushS false false false ([] : List UInt8) [1, 0, 1, 1, 2, 0, 2, 7]).off) (brokeS false false false ([] : List UInt8) [1, 0, 1, 1, 2, 0, 2, 7]) ((pushS false false false ([] : List UInt8) [1, 0, 1, 1, 2, 0, 2, 7]).rest) [8, 3, 0, 0, 5]).rest = l31 := hx34.symm
  refine AtL.move (.inl rfl) rfl rfl ?_
  refine AtL.extract (.inl rfl) rfl rfl rfl ?_
  refine AtL.extract (.inl rfl) rfl rfl rfl ?_
  refine AtL.assign (.inl rfl) rfl rfl ?_
  refine AtL.assign (.inl rfl) rfl rfl ?_
  refine AtL.done ?_
  refine At.seq ?_
  refine At.region ?_
  refine AtL.move (.inl rfl) rfl rfl ?_
  refine AtL.buildSlice (cs := [.int .u8 2, .int .u8 0, .int .u8 0]) Try.underlying22 tf_zero5 tf_sz5 rfl rfl (.inl rfl) rfl rfl rfl ?_
  intro b35
  refine AtL.own1 tyB (l := ([2, 0, 0] : List UInt8)) rfl rfl (by first | decide | simp) ?_
  intro s36 o37
  refine AtL.nil ?_
  refine AtL.pick (H' := [] :: [(b2, .cells #[.slice none 0 0, .bool false, .bool false, .bool false, .bool false, .bool false] 61 (0, 0))] :: s36 :: s26 :: s32 :: [(b1, .cells #[.slice A29 ((pushS ((pushS false false false ([] : List UInt8) [1, 0, 1, 1, 2, 0, 2, 7]).h) ((pushS false false false ([] : List UInt8) [1, 0, 1, 1, 2, 0, 2, 7]).off) (brokeS false false false ([] : List UInt8) [1, 0, 1, 1, 2, 0, 2, 7]) ((pushS false false false ([] : List UInt8) [1, 0, 1, 1, 2, 0, 2, 7]).rest) [8, 3, 0, 0, 5]).rest).length C30, .bool ((pushS ((pushS false false false ([] : List UInt8) [1, 0, 1, 1, 2, 0, 2, 7]).h) ((pushS false false false ([] : List UInt8) [1, 0, 1, 1, 2, 0, 2, 7]).off) (brokeS false false false ([] : List UInt8) [1, 0, 1, 1, 2, 0, 2, 7]) ((pushS false false false ([] : List UInt8) [1, 0, 1, 1, 2, 0, 2, 7]).rest) [8, 3, 0, 0, 5]).h), .bool ((pushS ((pushS false false false ([] : List UInt8) [1, 0, 1, 1, 2, 0, 2, 7]).h) ((pushS false false false ([] : List UInt8) [1, 0, 1, 1, 2, 0, 2, 7]).off) (brokeS false false false ([] : List UInt8) [1, 0, 1, 1, 2, 0, 2, 7]) ((pushS false false false ([] : List UInt8) [1, 0, 1, 1, 2, 0, 2, 7]).rest) [8, 3, 0, 0, 5]).off), .bool (brokeS ((pushS false false false ([] : List UInt8) [1, 0, 1, 1, 2, 0, 2, 7]).h) ((pushS false false false ([] : List UInt8) [1, 0, 1, 1, 2, 0, 2, 7]).off) (brokeS false false false ([] : List UInt8) [1, 0, 1, 1, 2, 0, 2, 7]) ((pushS false false false ([] : List UInt8) [1, 0, 1, 1, 2, 0, 2, 7]).rest) [8, 3, 0, 0, 5]), .bool false, .bool false] 61 (0, 0))] :: s21 :: s11 :: s6 :: [(b4, .cells #[.bool false] 64 (0, 0))] :: [(b3, .cells #[.slice none 0 0, .bool false, .bool false, .bool false, .bool false, .bool false] 61 (0, 0))] :: H) [0, 10, 1, 2, 3, 4, 5, 6, 7, 8, 9] 11 rfl rfl ?_
  refine AtL.callI tf_body53 (.inl rfl) rfl rfl rfl (fun w => by kernel_rfl) (push_ok (y := Sl.nil) (l := [2, 0, 0]) (o37.rd (i := 0) rfl) (by first | omega | (simp only [List.length_append, List.length_cons, List.length_nil, Sl.nil, known_a]; omega) | (simp [Sl.nil, known_a]; done) | (simp [Sl.nil, known_a]; omega))) ?_
  rintro _ _ ⟨⟨A38, C39, l40, s41, o42⟩, ⟨A44, C45, l46, s47, o48⟩, hx43, hx49, rfl, rfl⟩
  obtain rfl : (pushS false false false ([] : List UInt8) [2, 0, 0]).out = l40 := hx43.symm
  obtain rfl : (pushS false false false ([] : List UInt8) [2, 0, 0]).rest = l46 := hx49.symm
  refine AtL.move (.inl rfl) rfl rfl ?_
  refine AtL.extract (.inl rfl) rfl rfl rfl ?_
  refine AtL.extract (.inl rfl) rfl rfl rfl ?_
  refine AtL.assign (.inl rfl) rfl rfl ?_
  refine AtL.assign (.inl rfl) rfl rfl ?_
  refine AtL.done ?_
  refine At.seq ?_
  refine At.region ?_
  refine AtL.move (.inl rfl) rfl rfl ?_
  refine AtL.buildSlice (cs := [.int .u8 1, .int .u8 0, .int .u8 1, .int .u8 1, .int .u8 2, .int .u8 255, .int .u8 0]) Try.underlying22 tf_zero5 tf_sz5 rfl rfl (.inl rfl) rfl rfl rfl ?_
  intro b50
  refine AtL.own1 tyB (l := ([1, 0, 1, 1, 2, 255, 0] : List UInt8)) rfl rfl (by first | decide | simp) ?_
  intro s51 o52
  refine AtL.nil ?_
  refine AtL.pick (H' := [] :: [(b3, .cells #[.slice none 0 0, .bool false, .bool false, .bool false, .bool false, .bool false] 61 (0, 0))] :: s51 :: s41 :: s47 :: [(b2, .cells #[.slice A44 ((pushS false false false ([] : List UInt8) [2, 0, 0]).rest).length C45, .bool ((pushS false false false ([] : List UInt8) [2, 0, 0]).h), .bool ((pushS false false false ([] : List UInt8) [2, 0, 0]).off), .bool (brokeS false false false ([] : List UInt8) [2, 0, 0]), .bool false, .bool false] 61 (0, 0))] :: s36 :: s26 :: s32 :: [(b1, .cells #[.slice A29 ((pushS ((pushS false false false ([] : List UInt8) [1, 0, 1, 1, 2, 0, 2, 7]).h) ((pushS false false false ([] : List UInt8) [1, 0, 1, 1, 2, 0, 2, 7]).off) (brokeS false false false ([] : List UInt8) [1, 0, 1, 1, 2, 0, 2, 7]) ((pushS false false false ([] : List UInt8) [1, 0, 1, 1, 2, 0, 2, 7]).rest) [8, 3, 0, 0, 5]).rest).length C30, .bool ((pushS ((pushS false false false ([] : List UInt8) [1, 0, 1, 1, 2, 0, 2, 7]).h) ((pushS false false false ([] : List UInt8) [1, 0, 1, 1, 2, 0, 2, 7]).off) (brokeS false false false ([] : List UInt8) [1, 0, 1, 1, 2, 0, 2, 7]) ((pushS false false false ([] : List UInt8) [1, 0, 1, 1, 2, 0, 2, 7]).rest) [8, 3, 0, 0, 5]).h), .bool ((pushS ((pushS false false false ([] : List UInt8) [1, 0, 1, 1, 2, 0, 2, 7]).h) ((pushS false false false ([] : List UInt8) [1, 0, 1, 1, 2, 0, 2, 7]).off) (brokeS false false false ([] : List UInt8) [1, 0, 1, 1, 2, 0, 2, 7]) ((pushS false false false ([] : List UInt8) [1, 0, 1, 1, 2, 0, 2, 7]).rest) [8, 3, 0, 0, 5]).off), .bool (brokeS ((pushS false false false ([] : List UInt8) [1, 0, 1, 1, 2, 0, 2, 7]).h) ((pushS false false false ([] : List UInt8) [1, 0, 1, 1, 2, 0, 2, 7]).off) (brokeS false false false ([] : List UInt8) [1, 0, 1, 1, 2, 0, 2, 7]) ((pushS false false false ([] : List UInt8) [1, 0, 1, 1, 2, 0, 2, 7]).rest) [8, 3, 0, 0, 5]), .bool false, .bool false] 61 (0, 0))] :: s21 :: s11 :: s6 :: [(b4, .cells #[.bool false] 64 (0, 0))] :: H) [0, 13, 1, 2, 3, 4, 5, 6, 7, 8, 9, 10, 11, 12] 14 rfl rfl ?_
  refine AtL.callI tf_body53 (.inl rfl) rfl rfl rfl (fun w => by kernel_rfl) (push_ok (y := Sl.nil) (l := [1, 0, 1, 1, 2, 255, 0]) (o52.rd (i := 0) rfl) (by first | omega | (simp only [List.length_append, List.length_cons, List.length_nil, Sl.nil, known_a]; omega) | (simp [Sl.nil, known_a]; done) | (simp [Sl.nil, known_a]; omega))) ?_
  rintro _ _ ⟨⟨A53, C54, l55, s56, o57⟩, ⟨A59, C60, l61, s62, o63⟩, hx58, hx64, rfl, rfl⟩
  obtain rfl : (pushS false false false ([] : List UInt8) [1, 0, 1, 1, 2, 255, 0]).out = l55 := hx58.symm
  obtain rfl : (pushS false false false ([] : List UInt8) [1, 0, 1, 1, 2, 255, 0]).rest = l61 := hx64.symm
  refine AtL.move (.inl rfl) rfl rfl ?_
  refine AtL.extract (.inl rfl) rfl rfl rfl ?_
  refine AtL.extract (.inl rfl) rfl rfl rfl ?_
  refine AtL.assign (.inl rfl) rfl rfl ?_
  refine AtL.assign (.inl rfl) rfl rfl ?_
  refine AtL.done ?_
  refine At.seq ?_
  refine At.region ?_
  refine AtL.move (.inl rfl) rfl rfl ?_
  refine AtL.lenL Try.underlying22 (.inl rfl) rfl rfl ?_
  refine AtL.eqi (.inl rfl) rfl rfl rfl ?_
  refine AtL.move (.inl rfl) rfl rfl ?_
  refine AtL.split (t := 65) rfl ?_ ?_
  · intro hs65
    have hs65 : (((pushS false false false ([] : List UInt8) [1, 0, 1, 1, 2, 0, 2, 7]).out).length : Int) = 0 := of_decide_eq_true hs65
    refine AtL.move (.inr ⟨_, _, _, rfl, rfl, rfl, rfl⟩) rfl rfl ?_
    refine AtL.eqi (.inr ⟨_, _, _, rfl, rfl, rfl, rfl⟩) rfl rfl rfl ?_
    refine AtL.pickT (.inl rfl) rfl rfl rfl ?_
    refine AtL.move (.inl rfl) rfl rfl ?_
    refine AtL.split (t := 69) rfl ?_ ?_
    · intro hs69
      have hs69 : ((pushS false false false ([] : List UInt8) [1, 0, 1, 1, 2, 0, 2, 7]).e) = 0 := of_decide_eq_true hs69
      refine AtL.move (.inr ⟨_, _, _, rfl, rfl, rfl, rfl⟩) rfl rfl ?_
      refine AtL.eqi (.inr ⟨_, _, _, rfl, rfl, rfl, rfl⟩) rfl rfl rfl ?_
      refine AtL.pickT (.inl rfl) rfl rfl rfl ?_
      refine AtL.move (.inl rfl) rfl rfl ?_
      refine AtL.split (t := 73) rfl ?_ ?_
      · intro hs73
        have hs73 : (((pushS false false false ([] : List UInt8) [1, 0, 1, 1, 2, 0, 2, 7]).rest).length : Int) = 4 := of_decide_eq_true hs73
        refine AtL.move (.inr ⟨_, _, _, rfl, rfl, rfl, rfl⟩) rfl rfl ?_
        refine AtL.buildSlice (cs := [.int .u8 7, .int .u8 8]) Try.underlying22 tf_zero5 tf_sz5 rfl rfl (.inr ⟨_, _, _, rfl, rfl, rfl, rfl⟩) rfl rfl rfl ?_
        intro b65
        refine AtL.own1 tyB (l := ([7, 8] : List UInt8)) rfl rfl (by first | decide | simp) ?_
        intro s66 o67
        refine AtL.call tf_body13 (.inr ⟨_, _, _, rfl, rfl, rfl, rfl⟩) rfl rfl (same_ok (l := (pushS ((pushS false false false ([] : List UInt8) [1, 0, 1, 1, 2, 0, 2, 7]).h) ((pushS false false false ([] : List UInt8) [1, 0, 1, 1, 2, 0, 2, 7]).off) (brokeS false false false ([] : List UInt8) [1, 0, 1, 1, 2, 0, 2, 7]) ((pushS false false false ([] : List UInt8) [1, 0, 1, 1, 2, 0, 2, 7]).rest) [8, 3, 0, 0, 5]).out) (l2 := [7, 8]) (o27.rd (i := 9) rfl) (o67.rd (i := 0) rfl)) ?_
        rintro _ _ ⟨rfl, rfl⟩
        refine AtL.pickT (.inl rfl) rfl rfl rfl ?_
        refine AtL.move (.inl rfl) rfl rfl ?_
        refine AtL.split (t := 78) rfl ?_ ?_
        · intro hs78
          have hs78 : (pushS ((pushS false false false ([] : List UInt8) [1, 0, 1, 1, 2, 0, 2, 7]).h) ((pushS false false false ([] : List UInt8) [1, 0, 1, 1, 2, 0, 2, 7]).off) (brokeS false false false ([] : List UInt8) [1, 0, 1, 1, 2, 0, 2, 7]) ((pushS false false false ([] : List UInt8) [1, 0, 1, 1, 2, 0, 2, 7]).rest) [8, 3, 0, 0, 5]).out = [7, 8] := of_decide_eq_true hs78
          refine AtL.move (.inr ⟨_, _, _, rfl, rfl, rfl, rfl⟩) rfl rfl ?_
          refine AtL.eqi (.inr ⟨_, _, _, rfl, rfl, rfl, rfl⟩) rfl rfl rfl ?_
          refine AtL.pickT (.inl rfl) rfl rfl rfl ?_
          refine AtL.move (.inl rfl) rfl rfl ?_
          refine AtL.split (t := 82) rfl ?_ ?_
          · intro hs82
            have hs82 : ((pushS ((pushS false false false ([] : List UInt8) [1, 0, 1, 1, 2, 0, 2, 7]).h) ((pushS false false false ([] : List UInt8) [1, 0, 1, 1, 2, 0, 2, 7]).off) (brokeS false false false ([] : List UInt8) [1, 0, 1, 1, 2, 0, 2, 7]) ((pushS false false false ([] : List UInt8) [1, 0, 1, 1, 2, 0, 2, 7]).rest) [8, 3, 0, 0, 5]).e) = 0 := of_decide_eq_true hs82
            refine AtL.move (.inr ⟨_, _, _, rfl, rfl, rfl, rfl⟩) rfl rfl ?_
            refine AtL.pick (H' := [(b1, .cells #[.slice A29 ((pushS ((pushS false false false ([] : List UInt8) [1, 0, 1, 1, 2, 0, 2, 7]).h) ((pushS false false false ([] : List UInt8) [1, 0, 1, 1, 2, 0, 2, 7]).off) (brokeS false false false ([] : List UInt8) [1, 0, 1, 1, 2, 0, 2, 7]) ((pushS false false false ([] : List UInt8) [1, 0, 1, 1, 2, 0, 2, 7]).rest) [8, 3, 0, 0, 5]).rest).length C30, .bool ((pushS ((pushS false false false ([] : List UInt8) [1, 0, 1, 1, 2, 0, 2, 7]).h) ((pushS false false false ([] : List UInt8) [1, 0, 1, 1, 2, 0, 2, 7]).off) (brokeS false false false ([] : List UInt8) [1, 0, 1, 1, 2, 0, 2, 7]) ((pushS false false false ([] : List UInt8) [1, 0, 1, 1, 2, 0, 2, 7]).rest) [8, 3, 0, 0, 5]).h), .bool ((pushS ((pushS false false false ([] : List UInt8) [1, 0, 1, 1, 2, 0, 2, 7]).h) ((pushS false false false ([] : List UInt8) [1, 0, 1, 1, 2, 0, 2, 7]).off) (brokeS false false false ([] : List UInt8) [1, 0, 1, 1, 2, 0, 2, 7]) ((pushS false false false ([] : List UInt8) [1, 0, 1, 1, 2, 0, 2, 7]).rest) [8, 3, 0, 0, 5]).off), .bool (brokeS ((pushS false false false ([] : List UInt8) [1, 0, 1, 1, 2, 0, 2, 7]).h) ((pushS false false false ([] : List UInt8) [1, 0, 1, 1, 2, 0, 2, 7]).off) (brokeS false false false ([] : List UInt8) [1, 0, 1, 1, 2, 0, 2, 7]) ((pushS false false false ([] : List UInt8) [1, 0, 1, 1, 2, 0, 2, 7]).rest) [8, 3, 0, 0, 5]), .bool false, .bool false] 61 (0, 0))] :: s66 :: s56 :: s62 :: [(b3, .cells #[.slice A59 ((pushS false false false ([] : List UInt8) [1, 0, 1, 1, 2, 255, 0]).rest).length C60, .bool ((pushS false false false ([] : List UInt8) [1, 0, 1, 1, 2, 255, 0]).h), .bool ((pushS false false false ([] : List UInt8) [1, 0, 1, 1, 2, 255, 0]).off), .bool (brokeS false false false ([] : List UInt8) [1, 0, 1, 1, 2, 255, 0]), .bool false, .bool false] 61 (0, 0))] :: s51 :: s41 :: s47 :: [(b2, .cells #[.slice A44 ((pushS false false false ([] : List UInt8) [2, 0, 0]).rest).length C45, .bool ((pushS false false false ([] : List UInt8) [2, 0, 0]).h), .bool ((pushS false false false ([] : List UInt8) [2, 0, 0]).off), .bool (brokeS false false false ([] : List UInt8) [2, 0, 0]), .bool false, .bool false] 61 (0, 0))] :: s36 :: s26 :: s32 :: s21 :: s11 :: s6 :: [(b4, .cells #[.bool false] 64 (0, 0))] :: H) [11, 0, 1, 2, 3, 4, 5, 6, 7, 8, 9, 10, 12, 13, 14, 15] 16 rfl rfl ?_
            refine AtL.callI tf_body51 (.inr ⟨_, _, _, rfl, rfl, rfl, rfl⟩) rfl rfl rfl (fun w => by kernel_rfl) ended_ok ?_
            rintro _ _ ⟨rfl, rfl⟩
            refine AtL.pickT (.inl rfl) rfl rfl rfl ?_
            refine AtL.move (.inl rfl) rfl rfl ?_
            refine AtL.split (t := 86) rfl ?_ ?_
            · intro hs86
              have hs86 : ((pushS ((pushS false false false ([] : List UInt8) [1, 0, 1, 1, 2, 0, 2, 7]).h) ((pushS false false false ([] : List UInt8) [1, 0, 1, 1, 2, 0, 2, 7]).off) (brokeS false false false ([] : List UInt8) [1, 0, 1, 1, 2, 0, 2, 7]) ((pushS false false false ([] : List UInt8) [1, 0, 1, 1, 2, 0, 2, 7]).rest) [8, 3, 0, 0, 5]).off) = true := hs86
              refine AtL.move (.inr ⟨_, _, _, rfl, rfl, rfl, rfl⟩) rfl rfl ?_
              refine AtL.eqi (.inr ⟨_, _, _, rfl, rfl, rfl, rfl⟩) rfl rfl rfl ?_
              refine AtL.pickT (.inl rfl) rfl rfl rfl ?_
              refine AtL.move (.inl rfl) rfl rfl ?_
              refine AtL.split (t := 90) rfl ?_ ?_
              · intro hs90
                have hs90 : ((pushS false false false ([] : List UInt8) [2, 0, 0]).e) = 4 := of_decide_eq_true hs90
                refine AtL.move (.inr ⟨_, _, _, rfl, rfl, rfl, rfl⟩) rfl rfl ?_
                refine AtL.pick (H' := [(b2, .cells #[.slice A44 ((pushS false false false ([] : List UInt8) [2, 0, 0]).rest).length C45, .bool ((pushS false false false ([] : List UInt8) [2, 0, 0]).h), .bool ((pushS false false false ([] : List UInt8) [2, 0, 0]).off), .bool (brokeS false false false ([] : List UInt8) [2, 0, 0]), .bool false, .bool false] 61 (0, 0))] :: [(b1, .cells #[.slice A29 ((pushS ((pushS false false false ([] : List UInt8) [1, 0, 1, 1, 2, 0, 2, 7]).h) ((pushS false false false ([] : List UInt8) [1, 0, 1, 1, 2, 0, 2, 7]).off) (brokeS false false false ([] : List UInt8) [1, 0, 1, 1, 2, 0, 2, 7]) ((pushS false false false ([] : List UInt8) [1, 0, 1, 1, 2, 0, 2, 7]).rest) [8, 3, 0, 0, 5]).rest).length C30, .bool ((pushS ((pushS false false false ([] : List UInt8) [1, 0, 1, 1, 2, 0, 2, 7]).h) ((pushS false false false ([] : List UInt8) [1, 0, 1, 1, 2, 0, 2, 7]).off) (brokeS false false false ([] : List UInt8) [1, 0, 1, 1, 2, 0, 2, 7]) ((pushS false false false ([] : List UInt8) [1, 0, 1, 1, 2, 0, 2, 7]).rest) [8, 3, 0, 0, 5]).h), .bool ((pushS ((pushS false false false ([] : List UInt8) [1, 0, 1, 1, 2, 0, 2, 7]).h) ((pushS false false false ([] : List UInt8) [1, 0, 1, 1, 2, 0, 2, 7]).off) (brokeS false false false ([] : List UInt8) [1, 0, 1, 1, 2, 0, 2, 7]) ((pushS false false false ([] : List UInt8) [1, 0, 1, 1, 2, 0, 2, 7]).rest) [8, 3, 0, 0, 5]).off), .bool (brokeS ((pushS false false false ([] : List UInt8) [1, 0, 1, 1, 2, 0, 2, 7]).h) ((pushS false false false ([] : List UInt8) [1, 0, 1, 1, 2, 0, 2, 7]).off) (brokeS false false false ([] : List UInt8) [1, 0, 1, 1, 2, 0, 2, 7]) ((pushS false false false ([] : List UInt8) [1, 0, 1, 1, 2, 0, 2, 7]).rest) [8, 3, 0, 0, 5]), .bool false, .bool false] 61 (0, 0))] :: s66 :: s56 :: s62 :: [(b3, .cells #[.slice A59 ((pushS false false false ([] : List UInt8) [1, 0, 1, 1, 2, 255, 0]).rest).length C60, .bool ((pushS false false false ([] : List UInt8) [1, 0, 1, 1, 2, 255, 0]).h), .bool ((pushS false false false ([] : List UInt8) [1, 0, 1, 1, 2, 255, 0]).off), .bool (brokeS false false false ([] : List UInt8) [1, 0, 1, 1, 2, 255, 0]), .bool false, .bool false] 61 (0, 0))] :: s51 :: s41 :: s47 :: s36 :: s26 :: s32 :: s21 :: s11 :: s6 :: [(b4, .cells #[.bool false] 64 (0, 0))] :: H) [8, 0, 1, 2, 3, 4, 5, 6, 7, 9, 10, 11, 12, 13, 14, 15] 16 rfl rfl ?_
                refine AtL.callI tf_body49 (.inr ⟨_, _, _, rfl, rfl, rfl, rfl⟩) rfl rfl rfl (fun w => by kernel_rfl) broken_ok ?_
                rintro _ _ ⟨rfl, rfl⟩
                refine AtL.pickT (.inl rfl) rfl rfl rfl ?_
                refine AtL.move (.inl rfl) rfl rfl ?_
                refine AtL.split (t := 94) rfl ?_ ?_
                · intro hs94
                  have hs94 : (brokeS false false false ([] : List UInt8) [2, 0, 0]) = true := hs94
                  refine AtL.move (.inr ⟨_, _, _, rfl, rfl, rfl, rfl⟩) rfl rfl ?_
                  refine AtL.eqi (.inr ⟨_, _, _, rfl, rfl, rfl, rfl⟩) rfl rfl rfl ?_
                  refine AtL.pickT (.inl rfl) rfl rfl rfl ?_
                  refine AtL.assign (.inl rfl) rfl rfl ?_
                  refine AtL.done ?_
                  refine At.seq ?_
                  refine At.region ?_
                  refine AtL.move (.inl rfl) rfl rfl ?_
                  refine AtL.buildSlice (cs := [.int .u8 7]) Try.underlying22 tf_zero5 tf_sz5 rfl rfl (.inl rfl) rfl rfl rfl ?_
                  intro b68
                  refine AtL.own1 tyB (l := ([7] : List UInt8)) rfl rfl (by first | decide | simp) ?_
                  intro s69 o70
                  refine AtL.callI tf_body71 (.inl rfl) rfl rfl rfl (fun w => by kernel_rfl) (ppush_ok (b := b4) (l := [7]) (o70.rd (i := 0) rfl) (by first | omega | (simp only [List.length_append, List.length_cons, List.length_nil, Sl.nil, known_a]; omega) | (simp [Sl.nil, known_a]; done) | (simp [Sl.nil, known_a]; omega))) ?_
                  rintro _ _ ⟨⟨A71, C72, l73, s74, o75⟩, hx76, rfl, rfl⟩
                  obtain rfl : [7] = l73 := hx76.symm
                  refine AtL.move (.inl rfl) rfl rfl ?_
                  refine AtL.extract (.inl rfl) rfl rfl rfl ?_
                  refine AtL.extract (.inl rfl) rfl rfl rfl ?_
                  refine AtL.assign (.inl rfl) rfl rfl ?_
                  refine AtL.assign (.inl rfl) rfl rfl ?_
                  refine AtL.done ?_
                  refine At.seq ?_
                  refine At.region ?_
                  refine AtL.move (.inl rfl) rfl rfl ?_
                  refine AtL.buildSlice (cs := [.int .u8 7]) Try.underlying22 tf_zero5 tf_sz5 rfl rfl (.inl rfl) rfl rfl rfl ?_
                  intro b77
                  refine AtL.own1 tyB (l := ([7] : List UInt8)) rfl rfl (by first | decide | simp) ?_
                  intro s78 o79
                  refine AtL.call tf_body13 (.inl rfl) rfl rfl (same_ok (l := [7]) (l2 := [7]) (o75.rd (i := 1) rfl) (o79.rd (i := 0) rfl)) ?_
                  rintro _ _ ⟨rfl, rfl⟩
                  refine AtL.move (.inl rfl) rfl rfl ?_
                  refine AtL.split (t := 107) rfl ?_ ?_
                  · intro hs107
                    have hs107 : [7] = [7] := of_decide_eq_true hs107
                    refine AtL.move (.inr ⟨_, _, _, rfl, rfl, rfl, rfl⟩) rfl rfl ?_
                    refine AtL.eqi (.inr ⟨_, _, _, rfl, rfl, rfl, rfl⟩) rfl rfl rfl ?_
                    refine AtL.pickT (.inl rfl) rfl rfl rfl ?_
                    refine AtL.move (.inl rfl) rfl rfl ?_
                    refine AtL.move (.inr ⟨_, _, _, rfl, rfl, rfl, rfl⟩) rfl rfl ?_
                    refine AtL.buildSlice (cs := [.int .u8 8]) Try.underlying22 tf_zero5 tf_sz5 rfl rfl (.inr ⟨_, _, _, rfl, rfl, rfl, rfl⟩) rfl rfl rfl ?_
                    intro b80
                    refine AtL.own1 tyB (l := ([8] : List UInt8)) rfl rfl (by first | decide | simp) ?_
                    intro s81 o82
                    refine AtL.pick (H' := [(b4, .cells #[.bool false] 64 (0, 0))] :: s81 :: s78 :: s74 :: s69 :: [(b2, .cells #[.slice A44 ((pushS false false false ([] : List UInt8) [2, 0, 0]).rest).length C45, .bool ((pushS false false false ([] : List UInt8) [2, 0, 0]).h), .bool ((pushS false false false ([] : List UInt8) [2, 0, 0]).off), .bool (brokeS false false false ([] : List UInt8) [2, 0, 0]), .bool false, .bool false] 61 (0, 0))] :: [(b1, .cells #[.slice A29 ((pushS ((pushS false false false ([] : List UInt8) [1, 0, 1, 1, 2, 0, 2, 7]).h) ((pushS false false false ([] : List UInt8) [1, 0, 1, 1, 2, 0, 2, 7]).off) (brokeS false false false ([] : List UInt8) [1, 0, 1, 1, 2, 0, 2, 7]) ((pushS false false false ([] : List UInt8) [1, 0, 1, 1, 2, 0, 2, 7]).rest) [8, 3, 0, 0, 5]).rest).length C30, .bool ((pushS ((pushS false false false ([] : List UInt8) [1, 0, 1, 1, 2, 0, 2, 7]).h) ((pushS false false false ([] : List UInt8) [1, 0, 1, 1, 2, 0, 2, 7]).off) (brokeS false false false ([] : List UInt8) [1, 0, 1, 1, 2, 0, 2, 7]) ((pushS false false false ([] : List UInt8) [1, 0, 1, 1, 2, 0, 2, 7]).rest) [8, 3, 0, 0, 5]).h), .bool ((pushS ((pushS false false false ([] : List UInt8) [1, 0, 1, 1, 2, 0, 2, 7]).h) ((pushS false false false ([] : List UInt8) [1, 0, 1, 1, 2, 0, 2, 7]).off) (brokeS false false false ([] : List UInt8) [1, 0, 1, 1, 2, 0, 2, 7]) ((pushS false false false ([] : List UInt8) [1, 0, 1, 1, 2, 0, 2, 7]).rest) [8, 3, 0, 0, 5]).off), .bool (brokeS ((pushS false false false ([] : List UInt8) [1, 0, 1, 1, 2, 0, 2, 7]).h) ((pushS false false false ([] : List UInt8) [1, 0, 1, 1, 2, 0, 2, 7]).off) (brokeS false false false ([] : List UInt8) [1, 0, 1, 1, 2, 0, 2, 7]) ((pushS false false false ([] : List UInt8) [1, 0, 1, 1, 2, 0, 2, 7]).rest) [8, 3, 0, 0, 5]), .bool false, .bool false] 61 (0, 0))] :: s66 :: s56 :: s62 :: [(b3, .cells #[.slice A59 ((pushS false false false ([] : List UInt8) [1, 0, 1, 1, 2, 255, 0]).rest).length C60, .bool ((pushS false false false ([] : List UInt8) [1, 0, 1, 1, 2, 255, 0]).h), .bool ((pushS false false false ([] : List UInt8) [1, 0, 1, 1, 2, 255, 0]).off), .bool (brokeS false false false ([] : List UInt8) [1, 0, 1, 1, 2, 255, 0]), .bool false, .bool false] 61 (0, 0))] :: s51 :: s41 :: s47 :: s36 :: s26 :: s32 :: s21 :: s11 :: s6 :: H) [19, 0, 1, 2, 3, 4, 5, 6, 7, 8, 9, 10, 11, 12, 13, 14, 15, 16, 17, 18] 20 rfl rfl ?_
                    refine AtL.callI tf_body72 (.inr ⟨_, _, _, rfl, rfl, rfl, rfl⟩) rfl rfl rfl (fun w => by kernel_rfl) (psend_ok (l := [8]) (o82.rd (i := 0) rfl) (by first | omega | (simp only [List.length_append, List.length_cons, List.length_nil, Sl.nil, known_a]; omega) | (simp [Sl.nil, known_a]; done) | (simp [Sl.nil, known_a]; omega))) ?_
                    rintro _ _ ⟨⟨A83, C84, l85, s86, o87⟩, hx88, rfl, rfl⟩
                    obtain rfl : psendF false [8] = l85 := hx88.symm
                    refine AtL.buildSlice (cs := [.int .u8 8]) Try.underlying22 tf_zero5 tf_sz5 rfl rfl (.inr ⟨_, _, _, rfl, rfl, rfl, rfl⟩) rfl rfl rfl ?_
                    intro b89
                    refine AtL.own1 tyB (l := ([8] : List UInt8)) rfl rfl (by first | decide | simp) ?_
                    intro s90 o91
                    refine AtL.call tf_body13 (.inr ⟨_, _, _, rfl, rfl, rfl, rfl⟩) rfl rfl (same_ok (l := psendF false [8]) (l2 := [8]) (o87.rd (i := 1) rfl) (o91.rd (i := 0) rfl)) ?_
                    rintro _ _ ⟨rfl, rfl⟩
                    refine AtL.pickT (.inl rfl) rfl rfl rfl ?_
                    refine AtL.move (.inl rfl) rfl rfl ?_
                    refine AtL.split (t := 118) rfl ?_ ?_
                    · intro hs118
                      have hs118 : psendF false [8] = [8] := of_decide_eq_true hs118
                      refine AtL.move (.inr ⟨_, _, _, rfl, rfl, rfl, rfl⟩) rfl rfl ?_
                      refine AtL.pick (H' := [(b4, .cells #[.bool false] 64 (0, 0))] :: s90 :: s86 :: s81 :: s78 :: s74 :: s69 :: [(b2, .cells #[.slice A44 ((pushS false false false ([] : List UInt8) [2, 0, 0]).rest).length C45, .bool ((pushS false false false ([] : List UInt8) [2, 0, 0]).h), .bool ((pushS false false false ([] : List UInt8) [2, 0, 0]).off), .bool (brokeS false false false ([] : List UInt8) [2, 0, 0]), .bool false, .bool false] 61 (0, 0))] :: [(b1, .cells #[.slice A29 ((pushS ((pushS false false false ([] : List UInt8) [1, 0, 1, 1, 2, 0, 2, 7]).h) ((pushS false false false ([] : List UInt8) [1, 0, 1, 1, 2, 0, 2, 7]).off) (brokeS false false false ([] : List UInt8) [1, 0, 1, 1, 2, 0, 2, 7]) ((pushS false false false ([] : List UInt8) [1, 0, 1, 1, 2, 0, 2, 7]).rest) [8, 3, 0, 0, 5]).rest).length C30, .bool ((pushS ((pushS false false false ([] : List UInt8) [1, 0, 1, 1, 2, 0, 2, 7]).h) ((pushS false false false ([] : List UInt8) [1, 0, 1, 1, 2, 0, 2, 7]).off) (brokeS false false false ([] : List UInt8) [1, 0, 1, 1, 2, 0, 2, 7]) ((pushS false false false ([] : List UInt8) [1, 0, 1, 1, 2, 0, 2, 7]).rest) [8, 3, 0, 0, 5]).h), .bool ((pushS ((pushS false false false ([] : List UInt8) [1, 0, 1, 1, 2, 0, 2, 7]).h) ((pushS false false false ([] : List UInt8) [1, 0, 1, 1, 2, 0, 2, 7]).off) (brokeS false false false ([] : List UInt8) [1, 0, 1, 1, 2, 0, 2, 7]) ((pushS false false false ([] : List UInt8) [1, 0, 1, 1, 2, 0, 2, 7]).rest) [8, 3, 0, 0, 5]).off), .bool (brokeS ((pushS false false false ([] : List UInt8) [1, 0, 1, 1, 2, 0, 2, 7]).h) ((pushS false false false ([] : List UInt8) [1, 0, 1, 1, 2, 0, 2, 7]).off) (brokeS false false false ([] : List UInt8) [1, 0, 1, 1, 2, 0, 2, 7]) ((pushS false false false ([] : List UInt8) [1, 0, 1, 1, 2, 0, 2, 7]).rest) [8, 3, 0, 0, 5]), .bool false, .bool false] 61 (0, 0))] :: s66 :: s56 :: s62 :: [(b3, .cells #[.slice A59 ((pushS false false false ([] : List UInt8) [1, 0, 1, 1, 2, 255, 0]).rest).length C60, .bool ((pushS false false false ([] : List UInt8) [1, 0, 1, 1, 2, 255, 0]).h), .bool ((pushS false false false ([] : List UInt8) [1, 0, 1, 1, 2, 255, 0]).off), .bool (brokeS false false false ([] : List UInt8) [1, 0, 1, 1, 2, 255, 0]), .bool false, .bool false] 61 (0, 0))] :: s51 :: s41 :: s47 :: s36 :: s26 :: s32 :: s21 :: s11 :: s6 :: H) [2, 0, 1, 3, 4, 5, 6, 7, 8, 9, 10, 11, 12, 13, 14, 15, 16, 17, 18, 19, 20, 21] 22 rfl rfl ?_
                      refine AtL.callI tf_body68 (.inr ⟨_, _, _, rfl, rfl, rfl, rfl⟩) rfl rfl rfl (fun w => by kernel_rfl) pclose_ok ?_
                      rintro _ _ ⟨rfl, rfl⟩
                      refine AtL.lenL Try.underlying22 (.inr ⟨_, _, _, rfl, rfl, rfl, rfl⟩) rfl rfl ?_
                      refine AtL.eqi (.inr ⟨_, _, _, rfl, rfl, rfl, rfl⟩) rfl rfl rfl ?_
                      refine AtL.pickT (.inl rfl) rfl rfl rfl ?_
                      refine AtL.move (.inl rfl) rfl rfl ?_
                      refine AtL.move (.inr ⟨_, _, _, rfl, rfl, rfl, rfl⟩) rfl rfl ?_
                      refine AtL.buildSlice (cs := [.int .u8 8]) Try.underlying22 tf_zero5 tf_sz5 rfl rfl (.inr ⟨_, _, _, rfl, rfl, rfl, rfl⟩) rfl rfl rfl ?_
                      intro b92
                      refine AtL.own1 tyB (l := ([8] : List UInt8)) rfl rfl (by first | decide | simp) ?_
                      intro s93 o94
                      refine AtL.pick (H' := [(b4, .cells #[.bool true] 64 (0, 0))] :: s93 :: s90 :: s86 :: s81 :: s78 :: s74 :: s69 :: [(b2, .cells #[.slice A44 ((pushS false false false ([] : List UInt8) [2, 0, 0]).rest).length C45, .bool ((pushS false false false ([] : List UInt8) [2, 0, 0]).h), .bool ((pushS false false false ([] : List UInt8) [2, 0, 0]).off), .bool (brokeS false false false ([] : List UInt8) [2, 0, 0]), .bool false, .bool false] 61 (0, 0))] :: [(b1, .cells #[.slice A29 ((pushS ((pushS false false false ([] : List UInt8) [1, 0, 1, 1, 2, 0, 2, 7]).h) ((pushS false false false ([] : List UInt8) [1, 0, 1, 1, 2, 0, 2, 7]).off) (brokeS false false false ([] : List UInt8) [1, 0, 1, 1, 2, 0, 2, 7]) ((pushS false false false ([] : List UInt8) [1, 0, 1, 1, 2, 0, 2, 7]).rest) [8, 3, 0, 0, 5]).rest).length C30, .bool ((pushS ((pushS false false false ([] : List UInt8) [1, 0, 1, 1, 2, 0, 2, 7]).h) ((pushS false false false ([] : List UInt8) [1, 0, 1, 1, 2, 0, 2, 7]).off) (brokeS false false false ([] : List UInt8) [1, 0, 1, 1, 2, 0, 2, 7]) ((pushS false false false ([] : List UInt8) [1, 0, 1, 1, 2, 0, 2, 7]).rest) [8, 3, 0, 0, 5]).h), .bool ((pushS ((pushS false false false ([] : List UInt8) [1, 0, 1, 1, 2, 0, 2, 7]).h) ((pushS false false false ([] : List UInt8) [1, 0, 1, 1, 2, 0, 2, 7]).off) (brokeS false false false ([] : List UInt8) [1, 0, 1, 1, 2, 0, 2, 7]) ((pushS false false false ([] : List UInt8) [1, 0, 1, 1, 2, 0, 2, 7]).rest) [8, 3, 0, 0, 5]).off), .bool (brokeS ((pushS false false false ([] : List UInt8) [1, 0, 1, 1, 2, 0, 2, 7]).h) ((pushS false false false ([] : List UInt8) [1, 0, 1, 1, 2, 0, 2, 7]).off) (brokeS false false false ([] : List UInt8) [1, 0, 1, 1, 2, 0, 2, 7]) ((pushS false false false ([] : List UInt8) [1, 0, 1, 1, 2, 0, 2, 7]).rest) [8, 3, 0, 0, 5]), .bool false, .bool false] 61 (0, 0))] :: s66 :: s56 :: s62 :: [(b3, .cells #[.slice A59 ((pushS false false false ([] : List UInt8) [1, 0, 1, 1, 2, 255, 0]).rest).length C60, .bool ((pushS false false false ([] : List UInt8) [1, 0, 1, 1, 2, 255, 0]).h), .bool ((pushS false false false ([] : List UInt8) [1, 0, 1, 1, 2, 255, 0]).off), .bool (brokeS false false false ([] : List UInt8) [1, 0, 1, 1, 2, 255, 0]), .bool false, .bool false] 61 (0, 0))] :: s51 :: s41 :: s47 :: s36 :: s26 :: s32 :: s21 :: s11 :: s6 :: H) [1, 0, 2, 3, 4, 5, 6, 7, 8, 9, 10, 11, 12, 13, 14, 15, 16, 17, 18, 19, 20, 21, 22] 23 rfl rfl ?_
                      refine AtL.callI tf_body72 (.inr ⟨_, _, _, rfl, rfl, rfl, rfl⟩) rfl rfl rfl (fun w => by kernel_rfl) (psend_ok (l := [8]) (o94.rd (i := 0) rfl) (by first | omega | (simp only [List.length_append, List.length_cons, List.length_nil, Sl.nil, known_a]; omega) | (simp [Sl.nil, known_a]; done) | (simp [Sl.nil, known_a]; omega))) ?_
                      rintro _ _ ⟨⟨A95, C96, l97, s98, o99⟩, hx100, rfl, rfl⟩
                      obtain rfl : psendF true [8] = l97 := hx100.symm
                      refine AtL.lenL Try.underlying22 (.inr ⟨_, _, _, rfl, rfl, rfl, rfl⟩) rfl rfl ?_
                      refine AtL.eqi (.inr ⟨_, _, _, rfl, rfl, rfl, rfl⟩) rfl rfl rfl ?_
                      refine AtL.pickT (.inl rfl) rfl rfl rfl ?_
                      refine AtL.assign (.inl rfl) rfl rfl ?_
                      refine AtL.done ?_
                      refine At.seq ?_
                      refine At.region ?_
                      refine AtL.call tf_body9 (.inl rfl) rfl rfl awake_ok ?_
                      rintro _ _ ⟨rfl, rfl⟩
                      refine AtL.move (.inl rfl) rfl rfl ?_
                      refine AtL.move (.inr ⟨_, _, _, rfl, rfl, rfl, rfl⟩) rfl rfl ?_
                      refine AtL.pickT (.inl rfl) rfl rfl rfl ?_
                      refine AtL.move (.inl rfl) rfl rfl ?_
                      refine AtL.split (t := 135) rfl ?_ ?_
                      · intro hs135
                        have hs135 : ((pushS false false false ([] : List UInt8) [1, 0, 1, 1, 2, 255, 0]).e) = 3 := of_decide_eq_true hs135
                        refine AtL.move (.inr ⟨_, _, _, rfl, rfl, rfl, rfl⟩) rfl rfl ?_
                        refine AtL.pickT (.inl rfl) rfl rfl rfl ?_
                        refine AtL.assign (.inl rfl) rfl rfl ?_
                        refine AtL.done ?_
                        refine At.pick (H' := H) [] 24 rfl rfl ?_
                        exact At.ret Try.func6 rfl rfl (⟨congrArg Value.bool (show (decide (((psendF true [8]).length : Int) = 0)) = true by simp [known_a, known_a2, known_b, known_d, known_d2, known_e, psendF]), rfl⟩)
                      · intro hs135
                        have hs135 : ¬ (((pushS false false false ([] : List UInt8) [1, 0, 1, 1, 2, 255, 0]).e) = 3) := of_decide_eq_false hs135
                        exfalso; revert hs135; simp [known_a, known_a2, known_b, known_d, known_d2, known_e, psendF]
                    · intro hs118
                      have hs118 : ¬ (psendF false [8] = [8]) := of_decide_eq_false hs118
                      exfalso; revert hs118; simp [known_a, known_a2, known_b, known_d, known_d2, known_e, psendF]
                  · intro hs107
                    exact Bool.noConfusion (hs107.symm.trans (decide_eq_true rfl))
                · intro hs94
                  have hs94 : (brokeS false false false ([] : List UInt8) [2, 0, 0]) = false := hs94
                  exfalso; revert hs94; simp [known_a, known_a2, known_b, known_d, known_d2, known_e, psendF]
              · intro hs90
                have hs90 : ¬ (((pushS false false false ([] : List UInt8) [2, 0, 0]).e) = 4) := of_decide_eq_false hs90
                exfalso; revert hs90; simp [known_a, known_a2, known_b, known_d, known_d2, known_e, psendF]
            · intro hs86
              have hs86 : ((pushS ((pushS false false false ([] : List UInt8) [1, 0, 1, 1, 2, 0, 2, 7]).h) ((pushS false false false ([] : List UInt8) [1, 0, 1, 1, 2, 0, 2, 7]).off) (brokeS false false false ([] : List UInt8) [1, 0, 1, 1, 2, 0, 2, 7]) ((pushS false false false ([] : List UInt8) [1, 0, 1, 1, 2, 0, 2, 7]).rest) [8, 3, 0, 0, 5]).off) = false := hs86
              exfalso; revert hs86; simp [known_a, known_a2, known_b, known_d, known_d2, known_e, psendF]
          · intro hs82
            have hs82 : ¬ (((pushS ((pushS false false false ([] : List UInt8) [1, 0, 1, 1, 2, 0, 2, 7]).h) ((pushS false false false ([] : List UInt8) [1, 0, 1, 1, 2, 0, 2, 7]).off) (brokeS false false false ([] : List UInt8) [1, 0, 1, 1, 2, 0, 2, 7]) ((pushS false false false ([] : List UInt8) [1, 0, 1, 1, 2, 0, 2, 7]).rest) [8, 3, 0, 0, 5]).e) = 0) := of_decide_eq_false hs82
            exfalso; revert hs82; simp [known_a, known_a2, known_b, known_d, known_d2, known_e, psendF]
        · intro hs78
          have hs78 : ¬ ((pushS ((pushS false false false ([] : List UInt8) [1, 0, 1, 1, 2, 0, 2, 7]).h) ((pushS false false false ([] : List UInt8) [1, 0, 1, 1, 2, 0, 2, 7]).off) (brokeS false false false ([] : List UInt8) [1, 0, 1, 1, 2, 0, 2, 7]) ((pushS false false false ([] : List UInt8) [1, 0, 1, 1, 2, 0, 2, 7]).rest) [8, 3, 0, 0, 5]).out = [7, 8]) := of_decide_eq_false hs78
          exfalso; revert hs78; simp [known_a, known_a2, known_b, known_d, known_d2, known_e, psendF]
      · intro hs73
        have hs73 : ¬ ((((pushS false false false ([] : List UInt8) [1, 0, 1, 1, 2, 0, 2, 7]).rest).length : Int) = 4) := of_decide_eq_false hs73
        exfalso; revert hs73; simp [known_a, known_a2, known_b, known_d, known_d2, known_e, psendF]
    · intro hs69
      have hs69 : ¬ (((pushS false false false ([] : List UInt8) [1, 0, 1, 1, 2, 0, 2, 7]).e) = 0) := of_decide_eq_false hs69
      exfalso; revert hs69; simp [known_a, known_a2, known_b, known_d, known_d2, known_e, psendF]
  · intro hs65
    have hs65 : ¬ ((((pushS false false false ([] : List UInt8) [1, 0, 1, 1, 2, 0, 2, 7]).out).length : Int) = 0) := of_decide_eq_false hs65
    exfalso; revert hs65; simp [known_a, known_a2, known_b, known_d, known_d2, known_e, psendF]

set_option maxHeartbeats 1000000 in
theorem back_ok {w0 : World} {base : Nat} {H : List Seg} {A Ac : Option Addr} {C Cc : Nat} {l : List Bs} {ns : List Int} (h : Rd tyL w0 base H A C l) (he : ∀ x ∈ l, Rd tyB w0 base H x.A x.C x.l) (hb : ∀ x ∈ l, x.l.length ≤ 140737488351232) (h2 : Rd tyI w0 base H Ac Cc ns) :
    SCalls Try.prog 7 [.slice A l.length C, .slice Ac ns.length Cc] w0 base (H) (fun v H' => v = .bool true ∧ H' = H) := by
  refine SCalls.of_walk (n := 107) Try.func7 rfl rfl rfl fun cs => ?_
  refine At.seq ?_
  refine At.region ?_
  refine AtL.assign (.inl rfl) rfl rfl ?_
  refine AtL.done ?_
  refine At.seq ?_
  refine At.region ?_
  refine AtL.call tf_body6 (.inl rfl) rfl rfl known_ok ?_
  rintro _ _ ⟨rfl, hHq⟩
  obtain rfl := hHq.symm
  refine AtL.assign (.inl rfl) rfl rfl ?_
  refine AtL.done ?_
  refine At.seq ?_
  refine At.region ?_
  refine AtL.call tf_body25 (.inl rfl) rfl rfl sealed_ok ?_
  rintro _ _ ⟨b1, rfl, rfl⟩
  refine AtL.assign (.inl rfl) rfl rfl ?_
  refine AtL.done ?_
  refine At.seq ?_
  refine At.seq ?_
  refine At.region ?_
  refine AtL.move (.inl rfl) rfl rfl ?_
  refine AtL.eqIfaceNil Try.underlying39 (.inl rfl) rfl rfl rfl ?_
  refine AtL.done ?_
  refine At.condF rfl ?_
  refine At.skip ?_
  refine At.seq ?_
  refine At.region ?_
  refine AtL.assign (.inl rfl) rfl rfl ?_
  refine AtL.done ?_
  refine At.seq ?_
  refine At.region ?_
  refine AtL.assign (.inl rfl) rfl rfl ?_
  refine AtL.assign (.inl rfl) rfl rfl ?_
  refine AtL.done ?_
  refine At.seq ?_
  refine At.seq ?_
  refine At.region ?_
  refine AtL.assign (.inl rfl) rfl rfl ?_
  refine AtL.done ?_
  refine At.block ?_
  refine At.nil ?_
  refine At.nil ?_
  refine At.loop4 (fun (i : Nat) (x : Sl tyB 5) (y : Sl tyB 5) (g : Bool) => [(0, .slice A l.length C), (1, .slice Ac ns.length Cc), (5, .bool true), (6, .iface 58 (.pointer (some ⟨b1, 0, none⟩))), (7, .int .i64 (y.l.length : Int)), (8, .slice x.A x.l.length x.C), (9, .slice y.A y.l.length y.C), (10, .int .i64 (i : Int))]) (fun (i : Nat) (x : Sl tyB 5) (y : Sl tyB 5) (g : Bool) => x.s :: y.s :: [(b1, .cells #[.slice none 0 0, .bool false, .bool false, .bool false, .bool g, .bool false] 61 (0, 0))] :: H) (fun (i : Nat) (x : Sl tyB 5) (y : Sl tyB 5) (g : Bool) => Fwd x.l y.l g ∧ i ≤ l.length ∧ x.l.length ≤ 4 * i + 4 * y.l.length ∧ y.l.length ≤ 5000 ∧ (0 < i → l.length ≤ 20)) (fun (i : Nat) (x : Sl tyB 5) (y : Sl tyB 5) (g : Bool) => l.length - i) 0 Sl.nil Sl.nil false (⟨Fwd.start, by omega, by simp [Sl.nil], by simp [Sl.nil], fun h => absurd h (by omega)⟩) ⟨rfl, rfl, rfl, rfl, rfl, rfl, rfl, rfl, trivial⟩ rfl ?_
  rintro i x y g ⟨hF, hi, hx, hy, hi2⟩ ihL1
  have hsend := send_len g false (l.getD i ⟨none, 0, []⟩).l
  have hcl := close_len g false
  refine At.seq ?_
  refine At.seq ?_
  refine At.region ?_
  refine AtL.move (.inl rfl) rfl rfl ?_
  refine AtL.move (.inl rfl) rfl rfl ?_
  refine AtL.lenL Try.underlying34 (.inl rfl) rfl rfl ?_
  refine AtL.lss (.inl rfl) rfl rfl rfl ?_
  refine AtL.done ?_
  refine At.cond rfl ?_ ?_
  · intro hc2
    have hc2 : (i : Int) < (l.length : Int) := of_decide_eq_true hc2
    have hb1 := hb _ (getD_mem (l := l) (i := i) (d := (⟨none, 0, []⟩ : Bs)) (by omega))
    refine At.skip ?_
    refine At.seq ?_
    refine At.block ?_
    refine At.seq ?_
    refine At.region ?_
    refine AtL.move (.inl rfl) rfl rfl ?_
    refine AtL.move (.inl rfl) rfl rfl ?_
    refine AtL.move (.inl rfl) rfl rfl ?_
    refine AtL.indexL i (Rd.skip 3 h) Try.underlying34 tf_sz22 (.inl rfl) rfl rfl rfl rfl (by omega) ?_
    refine AtL.load (v := .slice ((l.getD i (⟨none, 0, []⟩ : Bs)).A) ((l.getD i (⟨none, 0, []⟩ : Bs)).l).length ((l.getD i (⟨none, 0, []⟩ : Bs)).C)) tf_flat22 (.inl rfl) rfl rfl (Rd.cell0 (Rd.skip 3 h) (getD_some (⟨none, 0, []⟩ : Bs) (by omega)) rfl) ?_
    refine AtL.lenL Try.underlying22 (.inl rfl) rfl rfl ?_
    refine AtL.add (z := (y.l.length : Int) + (((l.getD i (⟨none, 0, []⟩ : Bs)).l).length : Int)) (.inl rfl) rfl rfl rfl (w64 (by omega) (by omega)) ?_
    refine AtL.assign (.inl rfl) rfl rfl ?_
    refine AtL.done ?_
    refine At.seq ?_
    refine At.seq ?_
    refine At.region ?_
    refine AtL.move (.inl rfl) rfl rfl ?_
    refine AtL.gtr (.inl rfl) rfl rfl rfl ?_
    refine AtL.move (.inl rfl) rfl rfl ?_
    refine AtL.join 4 (E' := [(38, .bool (decide ((5000 < ((y.l.length : Int) + (((l.getD i (⟨none, 0, []⟩ : Bs)).l).length : Int))) ∨ (20 < (l.length : Int))))), (0, .slice A l.length C), (1, .slice Ac ns.length Cc), (5, .bool true), (6, .iface 58 (.pointer (some ⟨b1, 0, none⟩))), (7, .int .i64 ((y.l.length : Int) + (((l.getD i (⟨none, 0, []⟩ : Bs)).l).length : Int))), (8, .slice x.A x.l.length x.C), (9, .slice y.A y.l.length y.C), (10, .int .i64 (i : Int))]) (H' := x.s :: y.s :: [(b1, .cells #[.slice none 0 0, .bool false, .bool false, .bool false, .bool g, .bool false] 61 (0, 0))] :: H) (fun J => ?_) ?_
    · refine AtL.split (t := 34) rfl ?_ ?_
      · intro hs34
        have hs34 : 5000 < ((y.l.length : Int) + (((l.getD i (⟨none, 0, []⟩ : Bs)).l).length : Int)) := of_decide_eq_true hs34
        refine AtL.skipped rfl rfl rfl rfl rfl rfl ?_
        refine AtL.skipped rfl rfl rfl rfl rfl rfl ?_
        refine AtL.skipped rfl rfl rfl rfl rfl rfl ?_
        refine AtL.pickT (.inl rfl) rfl rfl rfl ?_
        exact J _ (by exact ⟨(boolIs (by clear J; first | (simp [hs34]; done) | (simp_all; done) | grind)), rfl, rfl, rfl, rfl, rfl, rfl, rfl, rfl, trivial⟩)
      · intro hs34
        have hs34 : ¬ (5000 < ((y.l.length : Int) + (((l.getD i (⟨none, 0, []⟩ : Bs)).l).length : Int))) := of_decide_eq_false hs34
        refine AtL.move (.inr ⟨_, _, _, rfl, rfl, rfl, rfl⟩) rfl rfl ?_
        refine AtL.lenL Try.underlying34 (.inr ⟨_, _, _, rfl, rfl, rfl, rfl⟩) rfl rfl ?_
        refine AtL.gtr (.inr ⟨_, _, _, rfl, rfl, rfl, rfl⟩) rfl rfl rfl ?_
        refine AtL.pickF (.inl rfl) rfl rfl rfl ?_
        exact J _ (by exact ⟨(boolIs (by clear J; first | (simp [hs34]; done) | (simp_all; done) | grind)), rfl, rfl, rfl, rfl, rfl, rfl, rfl, rfl, trivial⟩)
    · skip
      refine AtL.move (.inl rfl) rfl rfl ?_
      refine AtL.join 4 (E' := [(43, .bool (decide (((5000 < ((y.l.length : Int) + (((l.getD i (⟨none, 0, []⟩ : Bs)).l).length : Int))) ∨ (20 < (l.length : Int))) ∨ (60 < (ns.length : Int))))), (0, .slice A l.length C), (1, .slice Ac ns.length Cc), (5, .bool true), (6, .iface 58 (.pointer (some ⟨b1, 0, none⟩))), (7, .int .i64 ((y.l.length : Int) + (((l.getD i (⟨none, 0, []⟩ : Bs)).l).length : Int))), (8, .slice x.A x.l.length x.C), (9, .slice y.A y.l.length y.C), (10, .int .i64 (i : Int))]) (H' := x.s :: y.s :: [(b1, .cells #[.slice none 0 0, .bool false, .bool false, .bool false, .bool g, .bool false] 61 (0, 0))] :: H) (fun J => ?_) ?_
      · refine AtL.split (t := 39) rfl ?_ ?_
        · intro hs39
          have hs39 : (5000 < ((y.l.length : Int) + (((l.getD i (⟨none, 0, []⟩ : Bs)).l).length : Int))) ∨ (20 < (l.length : Int)) := of_decide_eq_true hs39
          refine AtL.skipped rfl rfl rfl rfl rfl rfl ?_
          refine AtL.skipped rfl rfl rfl rfl rfl rfl ?_
          refine AtL.skipped rfl rfl rfl rfl rfl rfl ?_
          refine AtL.pickT (.inl rfl) rfl rfl rfl ?_
          exact J _ (by exact ⟨(boolIs (by clear J; first | (simp [hs39]; done) | (simp_all; done) | grind)), rfl, rfl, rfl, rfl, rfl, rfl, rfl, rfl, trivial⟩)
        · intro hs39
          have hs39 : ¬ ((5000 < ((y.l.length : Int) + (((l.getD i (⟨none, 0, []⟩ : Bs)).l).length : Int))) ∨ (20 < (l.length : Int))) := of_decide_eq_false hs39
          refine AtL.move (.inr ⟨_, _, _, rfl, rfl, rfl, rfl⟩) rfl rfl ?_
          refine AtL.lenL Try.underlying31 (.inr ⟨_, _, _, rfl, rfl, rfl, rfl⟩) rfl rfl ?_
          refine AtL.gtr (.inr ⟨_, _, _, rfl, rfl, rfl, rfl⟩) rfl rfl rfl ?_
          refine AtL.pickF (.inl rfl) rfl rfl rfl ?_
          exact J _ (by exact ⟨(boolIs (by clear J; first | (simp [hs39]; done) | (simp_all; done) | grind)), rfl, rfl, rfl, rfl, rfl, rfl, rfl, rfl, trivial⟩)
      · skip
        refine AtL.done ?_
        refine At.cond rfl ?_ ?_
        · intro hc3
          have hc3 : ((5000 < ((y.l.length : Int) + (((l.getD i (⟨none, 0, []⟩ : Bs)).l).length : Int))) ∨ (20 < (l.length : Int))) ∨ (60 < (ns.length : Int)) := of_decide_eq_true hc3
          refine At.seq ?_
          refine At.region ?_
          refine AtL.move (.inl rfl) rfl rfl ?_
          refine AtL.assign (.inl rfl) rfl rfl ?_
          refine AtL.done ?_
          refine At.pick (H' := H) [] 3 rfl rfl ?_
          exact At.ret Try.func7 rfl rfl (⟨rfl, rfl⟩)
        · intro hc3
          have hc3 : ¬ (((5000 < ((y.l.length : Int) + (((l.getD i (⟨none, 0, []⟩ : Bs)).l).length : Int))) ∨ (20 < (l.length : Int))) ∨ (60 < (ns.length : Int))) := of_decide_eq_false hc3
          refine At.skip ?_
          refine At.seq ?_
          refine At.draw (es := [9, 10]) (pv := [(0, .slice x.A x.l.length x.C), (1, .iface 58 (.pointer (some ⟨b1, 0, none⟩))), (2, .slice A l.length C), (3, .int .i64 (i : Int)), (4, .pointer (some (eaddr A (i * tyL.sz)))), (5, .slice ((l.getD i (⟨none, 0, []⟩ : Bs)).A) ((l.getD i (⟨none, 0, []⟩ : Bs)).l).length ((l.getD i (⟨none, 0, []⟩ : Bs)).C)), (6, .func (.method "Send") #[.iface 58 (.pointer (some ⟨b1, 0, none⟩))] #[]), (7, .func (.method "Send") #[.iface 58 (.pointer (some ⟨b1, 0, none⟩))] #[]), (8, .iface 58 (.pointer (some ⟨b1, 0, none⟩)))]) tf_mixed (by kernel_rfl) (by kernel_rfl) (by kernel_rfl) ?_
          refine ⟨⟨.inr ⟨_, rfl, rfl, .inl ⟨rfl, Do.move rfl⟩⟩, .inr ⟨_, rfl, rfl, .inl ⟨rfl, Do.move rfl⟩⟩, .inr ⟨_, rfl, rfl, .inl ⟨rfl, Do.move rfl⟩⟩, .inr ⟨_, rfl, rfl, .inl ⟨rfl, Do.move rfl⟩⟩, .inr ⟨_, rfl, rfl, .inl ⟨rfl, Do.indexL i (Rd.skip 3 h) Try.underlying34 tf_sz22 rfl rfl rfl (by omega)⟩⟩, .inr ⟨_, rfl, rfl, .inl ⟨rfl, Do.load (v := .slice ((l.getD i (⟨none, 0, []⟩ : Bs)).A) ((l.getD i (⟨none, 0, []⟩ : Bs)).l).length ((l.getD i (⟨none, 0, []⟩ : Bs)).C)) tf_flat22 rfl (Rd.cell0 (Rd.skip 3 h) (getD_some (⟨none, 0, []⟩ : Bs) (by omega)) rfl)⟩⟩, .inr ⟨_, rfl, rfl, .inl ⟨rfl, Do.makeFunc rfl rfl⟩⟩, .inr ⟨_, rfl, rfl, .inl ⟨rfl, Do.nilCheckM rfl (fun w => by kernel_rfl)⟩⟩, .inr ⟨_, rfl, rfl, .inl ⟨rfl, Do.move rfl⟩⟩, trivial⟩, rfl, rfl, by kernel_rfl, _, rfl, rfl, rfl, _, Does.pick (H' := [(b1, .cells #[.slice none 0 0, .bool false, .bool false, .bool false, .bool g, .bool false] 61 (0, 0))] :: x.s :: y.s :: H) [2, 0, 1] 3 rfl rfl (Do.callI tf_body54 rfl rfl (fun w => by kernel_rfl) (send_ok (l := (l.getD i (⟨none, 0, []⟩ : Bs)).l) (Rd.skip 2 (he _ (getD_mem (l := l) (i := i) (d := (⟨none, 0, []⟩ : Bs)) (by omega)))) (by first | omega | (simp only [List.length_append, List.length_cons, List.length_nil]; omega) | (simp; done) | (simp; omega)))), ?_⟩
          rintro _ _ ⟨⟨A2, C3, l4, s5, o6⟩, hx7, rfl, rfl⟩
          obtain rfl : sendF g false ((l.getD i (⟨none, 0, []⟩ : Bs)).l) = l4 := hx7.symm
          refine ⟨[], rfl, ?_⟩
          refine ⟨⟨.inr ⟨_, rfl, rfl, .inl ⟨rfl, Do.move rfl⟩⟩, .inl (by kernel_rfl), .inl (by kernel_rfl), .inl (by kernel_rfl), .inl (by kernel_rfl), .inl (by kernel_rfl), .inl (by kernel_rfl), .inl (by kernel_rfl), .inl (by kernel_rfl), trivial⟩, rfl, rfl, by kernel_rfl, _, rfl, rfl, rfl, _, Do.append (l := x.l) (news := sendF g false ((l.getD i (⟨none, 0, []⟩ : Bs)).l)) 2 tf_el22 rfl x.own (o6.rd (i := 0) rfl) (by first | omega | (simp only [List.length_append, List.length_cons, List.length_nil]; omega) | (simp; done) | (simp; omega)) rfl rfl, ?_⟩
          rintro _ _ ⟨A8, C9, s10, o11, rfl, rfl⟩
          refine ⟨[(11, .slice A8 (x.l ++ (sendF g false ((l.getD i (⟨none, 0, []⟩ : Bs)).l))).length C9)], rfl, ?_⟩
          refine ⟨⟨.inr ⟨_, rfl, rfl, .inl ⟨rfl, Do.assign rfl⟩⟩, .inl (by kernel_rfl), .inl (by kernel_rfl), .inl (by kernel_rfl), .inl (by kernel_rfl), .inl (by kernel_rfl), .inl (by kernel_rfl), .inl (by kernel_rfl), .inl (by kernel_rfl), .inl (by kernel_rfl), trivial⟩, by kernel_rfl, ?_⟩
          refine At.mono (E' := [(0, .slice A l.length C), (1, .slice Ac ns.length Cc), (5, .bool true), (6, .iface 58 (.pointer (some ⟨b1, 0, none⟩))), (7, .int .i64 ((y.l.length : Int) + (((l.getD i (⟨none, 0, []⟩ : Bs)).l).length : Int))), (8, .slice A8 (x.l ++ (sendF g false ((l.getD i (⟨none, 0, []⟩ : Bs)).l))).length C9), (9, .slice y.A y.l.length y.C), (10, .int .i64 (i : Int))]) ⟨rfl, rfl, rfl, rfl, rfl, rfl, rfl, rfl, trivial⟩ ?_
          refine At.region ?_
          refine AtL.move (.inl rfl) rfl rfl ?_
          refine AtL.move (.inl rfl) rfl rfl ?_
          refine AtL.move (.inl rfl) rfl rfl ?_
          refine AtL.indexL i (Rd.skip 4 h) Try.underlying34 tf_sz22 (.inl rfl) rfl rfl rfl rfl (by omega) ?_
          refine AtL.load (v := .slice ((l.getD i (⟨none, 0, []⟩ : Bs)).A) ((l.getD i (⟨none, 0, []⟩ : Bs)).l).length ((l.getD i (⟨none, 0, []⟩ : Bs)).C)) tf_flat22 (.inl rfl) rfl rfl (Rd.cell0 (Rd.skip 4 h) (getD_some (⟨none, 0, []⟩ : Bs) (by omega)) rfl) ?_
          refine AtL.append (l := y.l) (news := (l.getD i (⟨none, 0, []⟩ : Bs)).l) 3 tf_el22 rfl y.own (Rd.skip 4 (he _ (getD_mem (l := l) (i := i) (d := (⟨none, 0, []⟩ : Bs)) (by omega)))) (by first | omega | (simp only [List.length_append, List.length_cons, List.length_nil]; omega) | (simp; done) | (simp; omega)) (.inl rfl) rfl rfl rfl ?_
          intro A22 C23 s24 o25
          refine AtL.assign (.inl rfl) rfl rfl ?_
          refine AtL.done ?_
          refine At.inBlock ?_
          refine At.region ?_
          refine AtL.move (.inl rfl) rfl rfl ?_
          refine AtL.add (z := (i : Int) + 1) (.inl rfl) rfl rfl rfl (w64 (by omega) (by omega)) ?_
          refine AtL.assign (.inl rfl) rfl rfl ?_
          refine AtL.done ?_
          refine At.pick (H' := s10 :: s24 :: [(b1, .cells #[.slice none 0 0, .bool false, .bool false, .bool false, .bool (sentF true g false ((l.getD i (⟨none, 0, []⟩ : Bs)).l)), .bool false] 61 (0, 0))] :: H) [2, 3, 1] 4 rfl rfl ?_
          exact ihL1 (i + 1) (⟨A8, C9, x.l ++ (sendF g false ((l.getD i (⟨none, 0, []⟩ : Bs)).l)), s10, o11⟩) (⟨A22, C23, y.l ++ ((l.getD i (⟨none, 0, []⟩ : Bs)).l), s24, o25⟩) (sentF true g false ((l.getD i (⟨none, 0, []⟩ : Bs)).l)) (⟨hF.step _, by omega, by have := send_len g false (l.getD i ⟨none, 0, []⟩).l; simp only [List.length_append]; omega, by simp only [List.length_append]; omega, fun _ => by omega⟩) (by omega) _ (by exact ⟨rfl, rfl, rfl, rfl, intEq (by simp only [List.length_append]; omega), rfl, rfl, rfl, trivial⟩)
  · intro hc2
    have hc2 : ¬ ((i : Int) < (l.length : Int)) := of_decide_eq_false hc2
    have hcl := close_len g false
    refine At.exit rfl ?_
    refine At.seq ?_
    refine At.region ?_
    refine AtL.move (.inl rfl) rfl rfl ?_
    refine AtL.move (.inl rfl) rfl rfl ?_
    refine AtL.pick (H' := [(b1, .cells #[.slice none 0 0, .bool false, .bool false, .bool false, .bool g, .bool false] 61 (0, 0))] :: x.s :: y.s :: H) [2, 0, 1] 3 rfl rfl ?_
    refine AtL.callI tf_body50 (.inl rfl) rfl rfl rfl (fun w => by kernel_rfl) close_ok ?_
    rintro _ _ ⟨⟨A26, C27, l28, s29, o30⟩, hx31, rfl, rfl⟩
    obtain rfl : closeF g false = l28 := hx31.symm
    refine AtL.append (l := x.l) (news := closeF g false) 2 tf_el22 rfl x.own (o30.rd (i := 0) rfl) (by first | omega | (simp only [List.length_append, List.length_cons, List.length_nil]; omega) | (simp; done) | (simp; omega)) (.inl rfl) rfl rfl rfl ?_
    intro A32 C33 s34 o35
    refine AtL.assign (.inl rfl) rfl rfl ?_
    refine AtL.done ?_
    refine At.seq ?_
    refine At.seq ?_
    refine At.region ?_
    refine AtL.move (.inl rfl) rfl rfl ?_
    refine AtL.buildSlice (cs := [.int .u8 1]) Try.underlying22 tf_zero5 tf_sz5 rfl rfl (.inl rfl) rfl rfl rfl ?_
    intro b36
    refine AtL.own1 tyB (l := ([1] : List UInt8)) rfl rfl (by first | decide | simp) ?_
    intro s37 o38
    refine AtL.pick (H' := [(b1, .cells #[.slice none 0 0, .bool false, .bool false, .bool false, .bool (closedF true g false), .bool true] 61 (0, 0))] :: s37 :: s29 :: s34 :: y.s :: H) [2, 0, 1, 3, 4] 5 rfl rfl ?_
    refine AtL.callI tf_body54 (.inl rfl) rfl rfl rfl (fun w => by kernel_rfl) (send_ok (l := [1]) (o38.rd (i := 0) rfl) (by first | omega | (simp only [List.length_append, List.length_cons, List.length_nil]; omega) | (simp; done) | (simp; omega))) ?_
    rintro _ _ ⟨⟨A39, C40, l41, s42, o43⟩, hx44, rfl, rfl⟩
    obtain rfl : sendF (closedF true g false) true [1] = l41 := hx44.symm
    refine AtL.lenL Try.underlying22 (.inl rfl) rfl rfl ?_
    refine AtL.nei (.inl rfl) rfl rfl rfl ?_
    refine AtL.move (.inl rfl) rfl rfl ?_
    refine AtL.join 4 (E' := [(75, .bool (decide (60 < (ns.length : Int)))), (1, .slice Ac ns.length Cc), (5, .bool true), (8, .slice A32 (x.l ++ (closeF g false)).length C33), (9, .slice y.A y.l.length y.C)]) (H' := s42 :: [(b1, .cells #[.slice none 0 0, .bool false, .bool false, .bool false, .bool (sentF true (closedF true g false) true [1]), .bool true] 61 (0, 0))] :: s37 :: s29 :: s34 :: y.s :: H) (fun J => ?_) ?_
    · refine AtL.split (t := 71) rfl ?_ ?_
      · intro hs71
        have hs71 : ¬ (((sendF (closedF true g false) true [1]).length : Int) = 0) := of_decide_eq_false (bnot_true hs71)
        exfalso; revert hs71; simp [sendF]
      · intro hs71
        have hs71 : ((sendF (closedF true g false) true [1]).length : Int) = 0 := of_decide_eq_true (bnot_false hs71)
        refine AtL.move (.inr ⟨_, _, _, rfl, rfl, rfl, rfl⟩) rfl rfl ?_
        refine AtL.lenL Try.underlying31 (.inr ⟨_, _, _, rfl, rfl, rfl, rfl⟩) rfl rfl ?_
        refine AtL.gtr (.inr ⟨_, _, _, rfl, rfl, rfl, rfl⟩) rfl rfl rfl ?_
        refine AtL.pickF (.inl rfl) rfl rfl rfl ?_
        exact J _ (by exact ⟨(boolIs (by clear J; first | (simp [hs71]; done) | (simp_all; done) | grind)), rfl, rfl, rfl, rfl, trivial⟩)
    · skip
      refine AtL.done ?_
      refine At.cond rfl ?_ ?_
      · intro hc4
        have hc4 : 60 < (ns.length : Int) := of_decide_eq_true hc4
        refine At.seq ?_
        refine At.region ?_
        refine AtL.move (.inl rfl) rfl rfl ?_
        refine AtL.move (.inl rfl) rfl rfl ?_
        refine AtL.move (.inr ⟨_, _, _, rfl, rfl, rfl, rfl⟩) rfl rfl ?_
        refine AtL.lenL Try.underlying31 (.inr ⟨_, _, _, rfl, rfl, rfl, rfl⟩) rfl rfl ?_
        refine AtL.gtr (.inr ⟨_, _, _, rfl, rfl, rfl, rfl⟩) rfl rfl rfl ?_
        refine AtL.pickT (.inl rfl) rfl rfl rfl ?_
        refine AtL.assign (.inl rfl) rfl rfl ?_
        refine AtL.done ?_
        refine At.pick (H' := H) [] 6 rfl rfl ?_
        exact At.ret Try.func7 rfl rfl (⟨congrArg Value.bool (show (decide (60 < (ns.length : Int))) = true by simpa using hc4), rfl⟩)
      · intro hc4
        have hc4 : ¬ (60 < (ns.length : Int)) := of_decide_eq_false hc4
        have hC := hF.close
        refine At.skip ?_
        refine At.seq ?_
        refine At.region ?_
        refine AtL.move (.inl rfl) rfl rfl ?_
        refine AtL.move (.inl rfl) rfl rfl ?_
        refine AtL.call tf_body17 (.inl rfl) rfl rfl (cut_ok (l := x.l ++ (closeF g false)) (ns := ns) (o35.rd (i := 4) rfl) (Rd.skip 6 h2) (by first | omega | (simp only [List.length_append, List.length_cons, List.length_nil]; omega) | (simp; done) | (simp; omega)) (by omega)) ?_
        rintro _ _ ⟨⟨A45, C46, l47, s48, o49⟩, hm50, he51, rfl, rfl⟩
        obtain ⟨hf52, hk53⟩ := cut_facts (x := l47) hm50
        refine AtL.call tf_body16 (.inl rfl) rfl rfl (by have h9 := pushed_ok (w0 := w0) (base := base) (H := s48 :: s42 :: [(b1, .cells #[.slice none 0 0, .bool false, .bool false, .bool false, .bool (sentF true (closedF true g false) true [1]), .bool true] 61 (0, 0))] :: s37 :: s29 :: s34 :: y.s :: H) (l := l47) (o49.rd (i := 0) rfl) (fun x hx => Rd.pick [1, 2, 3, 4, 5, 6] 7 rfl rfl (he51 x hx)) (by rw [hf52]; first | omega | (simp only [List.length_append]; omega)) (by omega); rw [hf52] at h9; exact h9) ?_
        rintro _ _ ⟨⟨A54, C55, l56, s57, o58⟩, hx59, rfl, rfl⟩
        obtain rfl : (pushF false (x.l ++ (closeF g false))).out = l56 := hx59.symm
        refine AtL.move (.inl rfl) rfl rfl ?_
        refine AtL.extract (.inl rfl) rfl rfl rfl ?_
        refine AtL.extract (.inl rfl) rfl rfl rfl ?_
        refine AtL.extract (.inl rfl) rfl rfl rfl ?_
        refine AtL.extract (.inl rfl) rfl rfl rfl ?_
        refine AtL.assign (.inl rfl) rfl rfl ?_
        refine AtL.assign (.inl rfl) rfl rfl ?_
        refine AtL.assign (.inl rfl) rfl rfl ?_
        refine AtL.assign (.inl rfl) rfl rfl ?_
        refine AtL.done ?_
        refine At.seq ?_
        refine At.region ?_
        refine AtL.move (.inl rfl) rfl rfl ?_
        refine AtL.move (.inl rfl) rfl rfl ?_
        refine AtL.move (.inr ⟨_, _, _, rfl, rfl, rfl, rfl⟩) rfl rfl ?_
        refine AtL.pickT (.inl rfl) rfl rfl rfl ?_
        refine AtL.move (.inl rfl) rfl rfl ?_
        refine AtL.move (.inr ⟨_, _, _, rfl, rfl, rfl, rfl⟩) rfl rfl ?_
        refine AtL.eqi (.inr ⟨_, _, _, rfl, rfl, rfl, rfl⟩) rfl rfl rfl ?_
        refine AtL.pickT (.inl rfl) rfl rfl rfl ?_
        refine AtL.move (.inl rfl) rfl rfl ?_
        refine AtL.join 2 (E' := [(101, .bool (decide ((((pushF false (x.l ++ (closeF g false))).e : Int) = 0) ∧ (((pushF false (x.l ++ (closeF g false))).off) = true)))), (9, .slice y.A y.l.length y.C), (11, .slice A54 ((pushF false (x.l ++ (closeF g false))).out).length C55)]) (H' := s57 :: s48 :: s42 :: [(b1, .cells #[.slice none 0 0, .bool false, .bool false, .bool false, .bool (sentF true (closedF true g false) true [1]), .bool true] 61 (0, 0))] :: s37 :: s29 :: s34 :: y.s :: H) (fun J => ?_) ?_
        · refine AtL.split (t := 99) rfl ?_ ?_
          · intro hs99
            have hs99 : ((pushF false (x.l ++ (closeF g false))).e : Int) = 0 := of_decide_eq_true hs99
            refine AtL.move (.inr ⟨_, _, _, rfl, rfl, rfl, rfl⟩) rfl rfl ?_
            refine AtL.pickT (.inl rfl) rfl rfl rfl ?_
            exact J _ (by exact ⟨(boolIs (by clear J; first | (simp [hs99]; done) | (simp_all; done) | grind)), rfl, rfl, trivial⟩)
          · intro hs99
            have hs99 : ¬ (((pushF false (x.l ++ (closeF g false))).e : Int) = 0) := of_decide_eq_false hs99
            refine AtL.skipped rfl rfl rfl rfl rfl rfl ?_
            refine AtL.pickF (.inl rfl) rfl rfl rfl ?_
            exact J _ (by exact ⟨(boolIs (by clear J; first | (simp [hs99]; done) | (simp_all; done) | grind)), rfl, rfl, trivial⟩)
        · skip
          refine AtL.move (.inl rfl) rfl rfl ?_
          refine AtL.join 4 (E' := [(106, .bool (decide (((((pushF false (x.l ++ (closeF g false))).e : Int) = 0) ∧ (((pushF false (x.l ++ (closeF g false))).off) = true)) ∧ ((pushF false (x.l ++ (closeF g false))).out = y.l))))]) (H' := s57 :: s48 :: s42 :: [(b1, .cells #[.slice none 0 0, .bool false, .bool false, .bool false, .bool (sentF true (closedF true g false) true [1]), .bool true] 61 (0, 0))] :: s37 :: s29 :: s34 :: y.s :: H) (fun J => ?_) ?_
          · refine AtL.split (t := 102) rfl ?_ ?_
            · intro hs102
              have hs102 : (((pushF false (x.l ++ (closeF g false))).e : Int) = 0) ∧ (((pushF false (x.l ++ (closeF g false))).off) = true) := of_decide_eq_true hs102
              refine AtL.move (.inr ⟨_, _, _, rfl, rfl, rfl, rfl⟩) rfl rfl ?_
              refine AtL.move (.inr ⟨_, _, _, rfl, rfl, rfl, rfl⟩) rfl rfl ?_
              refine AtL.call tf_body13 (.inr ⟨_, _, _, rfl, rfl, rfl, rfl⟩) rfl rfl (same_ok (l := (pushF false (x.l ++ (closeF g false))).out) (l2 := y.l) (o58.rd (i := 0) rfl) (y.own.rd (i := 7) rfl)) ?_
              rintro _ _ ⟨rfl, rfl⟩
              refine AtL.pickT (.inl rfl) rfl rfl rfl ?_
              exact J _ (by exact ⟨(boolIs (by clear J; first | (simp [hs102]; done) | (simp_all; done) | grind)), trivial⟩)
            · intro hs102
              have hs102 : ¬ ((((pushF false (x.l ++ (closeF g false))).e : Int) = 0) ∧ (((pushF false (x.l ++ (closeF g false))).off) = true)) := of_decide_eq_false hs102
              refine AtL.skipped rfl rfl rfl rfl rfl rfl ?_
              refine AtL.skipped rfl rfl rfl rfl rfl rfl ?_
              refine AtL.skipped rfl rfl rfl rfl rfl rfl ?_
              refine AtL.pickF (.inl rfl) rfl rfl rfl ?_
              exact J _ (by exact ⟨(boolIs (by clear J; first | (simp [hs102]; done) | (simp_all; done) | grind)), trivial⟩)
          · skip
            refine AtL.assign (.inl rfl) rfl rfl ?_
            refine AtL.done ?_
            refine At.pick (H' := H) [] 8 rfl rfl ?_
            exact At.ret Try.func7 rfl rfl (⟨congrArg Value.bool (show (decide (((((pushF false (x.l ++ (closeF g false))).e : Int) = 0) ∧ (((pushF false (x.l ++ (closeF g false))).off) = true)) ∧ ((pushF false (x.l ++ (closeF g false))).out = y.l))) = true by simp [hC]), rfl⟩)

set_option maxHeartbeats 400000 in
theorem long_ok {w0 : World} {base : Nat} {H : List Seg} {A : Option Addr} {C : Nat} {l : List (Int × Bs)} (h : Rd tyAct w0 base H A C l) (hb : ∀ x ∈ l, x.2.l.length ≤ 140737488351232) (hl : l.length ≤ 140737488351232) :
    SCalls Try.prog 19 [.slice A l.length C] w0 base (H) (fun v H' => ∃ z : Bool, (z = false → l.length ≤ 60 ∧ ∀ x ∈ l, x.2.l.length ≤ 9000) ∧ v = .bool z ∧ H' = H) := by
  refine SCalls.of_walk (n := 30) Try.func19 rfl rfl rfl fun cs => ?_
  refine At.seq ?_
  refine At.region ?_
  refine AtL.assign (.inl rfl) rfl rfl ?_
  refine AtL.done ?_
  refine At.seq ?_
  refine At.region ?_
  refine AtL.assign (.inl rfl) rfl rfl ?_
  refine AtL.done ?_
  refine At.seq ?_
  refine At.seq ?_
  refine At.region ?_
  refine AtL.assign (.inl rfl) rfl rfl ?_
  refine AtL.done ?_
  refine At.block ?_
  refine At.loop2 (fun (i : Nat) (n : Nat) => [(0, .slice A l.length C), (3, .int .i64 (n : Int)), (4, .int .i64 (i : Int))]) (fun (i : Nat) (n : Nat) => H) (fun (i : Nat) (n : Nat) => i ≤ l.length ∧ n ≤ 140737488361232 ∧ ∀ j, j < i → (l.getD j (0, ⟨none, 0, []⟩)).2.l.length ≤ n) (fun (i : Nat) (n : Nat) => l.length - i) 0 0 (⟨by omega, by omega, fun j hj => absurd hj (by omega)⟩) ⟨rfl, rfl, rfl, trivial⟩ rfl ?_
  rintro i n ⟨hi, hn, hj⟩ ihL1
  refine At.seq ?_
  refine At.seq ?_
  refine At.region ?_
  refine AtL.move (.inl rfl) rfl rfl ?_
  refine AtL.move (.inl rfl) rfl rfl ?_
  refine AtL.lenL Try.underlying37 (.inl rfl) rfl rfl ?_
  refine AtL.lss (.inl rfl) rfl rfl rfl ?_
  refine AtL.move (.inl rfl) rfl rfl ?_
  refine AtL.join 3 (E' := [(12, .bool (decide (((i : Int) < (l.length : Int)) ∧ ((n : Int) ≤ 9000)))), (0, .slice A l.length C), (3, .int .i64 (n : Int)), (4, .int .i64 (i : Int))]) (H' := H) (fun J => ?_) ?_
  · refine AtL.split (t := 9) rfl ?_ ?_
    · intro hs9
      have hs9 : (i : Int) < (l.length : Int) := of_decide_eq_true hs9
      refine AtL.move (.inr ⟨_, _, _, rfl, rfl, rfl, rfl⟩) rfl rfl ?_
      refine AtL.leq (.inr ⟨_, _, _, rfl, rfl, rfl, rfl⟩) rfl rfl rfl ?_
      refine AtL.pickT (.inl rfl) rfl rfl rfl ?_
      exact J _ (by exact ⟨(boolIs (by clear J; first | (simp [hs9]; done) | (simp_all; done) | grind)), rfl, rfl, rfl, trivial⟩)
    · intro hs9
      have hs9 : ¬ ((i : Int) < (l.length : Int)) := of_decide_eq_false hs9
      refine AtL.skipped rfl rfl rfl rfl rfl rfl ?_
      refine AtL.skipped rfl rfl rfl rfl rfl rfl ?_
      refine AtL.pickF (.inl rfl) rfl rfl rfl ?_
      exact J _ (by exact ⟨(boolIs (by clear J; first | (simp [hs9]; done) | (simp_all; done) | grind)), rfl, rfl, rfl, trivial⟩)
  · skip
    refine AtL.done ?_
    refine At.cond rfl ?_ ?_
    · intro hc1
      have hc1 : ((i : Int) < (l.length : Int)) ∧ ((n : Int) ≤ 9000) := of_decide_eq_true hc1
      have hb1 := hb _ (getD_mem (l := l) (i := i) (d := ((0, ⟨none, 0, []⟩) : Int × Bs)) (by omega))
      refine At.skip ?_
      refine At.seq ?_
      refine At.block ?_
      refine At.region ?_
      refine AtL.move (.inl rfl) rfl rfl ?_
      refine AtL.move (.inl rfl) rfl rfl ?_
      refine AtL.move (.inl rfl) rfl rfl ?_
      refine AtL.indexL i h Try.underlying37 tf_sz46 (.inl rfl) rfl rfl rfl rfl (by omega) ?_
      refine AtL.fieldAddr tf_fo46_1 (.inl rfl) rfl rfl ?_
      refine AtL.load (v := .slice ((l.getD i ((0, ⟨none, 0, []⟩) : Int × Bs)).2.A) ((l.getD i ((0, ⟨none, 0, []⟩) : Int × Bs)).2.l).length ((l.getD i ((0, ⟨none, 0, []⟩) : Int × Bs)).2.C)) tf_flat22 (.inl rfl) rfl rfl (Rd.cell_at h (j := 1) (getD_some ((0, ⟨none, 0, []⟩) : Int × Bs) (by omega)) rfl) ?_
      refine AtL.lenL Try.underlying22 (.inl rfl) rfl rfl ?_
      refine AtL.add (z := (n : Int) + (((l.getD i ((0, ⟨none, 0, []⟩) : Int × Bs)).2.l).length : Int)) (.inl rfl) rfl rfl rfl (w64 (by omega) (by omega)) ?_
      refine AtL.assign (.inl rfl) rfl rfl ?_
      refine AtL.done ?_
      refine At.inBlock ?_
      refine At.region ?_
      refine AtL.move (.inl rfl) rfl rfl ?_
      refine AtL.add (z := (i : Int) + 1) (.inl rfl) rfl rfl rfl (w64 (by omega) (by omega)) ?_
      refine AtL.assign (.inl rfl) rfl rfl ?_
      refine AtL.done ?_
      exact ihL1 (i + 1) (n + (((l.getD i ((0, ⟨none, 0, []⟩) : Int × Bs)).2.l).length)) (⟨by omega, by omega, fun j hj2 => (Nat.lt_succ_iff_lt_or_eq.1 hj2).elim (fun h9 => by have := hj j h9; omega) (fun h9 => by subst h9; omega)⟩) (by omega) _ (by exact ⟨rfl, intEq (by simp), intEq (by simp), trivial⟩)
    · intro hc1
      have hc1 : ¬ (((i : Int) < (l.length : Int)) ∧ ((n : Int) ≤ 9000)) := of_decide_eq_false hc1
      refine At.exit rfl ?_
      refine At.seq ?_
      refine At.region ?_
      refine AtL.move (.inl rfl) rfl rfl ?_
      refine AtL.lenL Try.underlying37 (.inl rfl) rfl rfl ?_
      refine AtL.gtr (.inl rfl) rfl rfl rfl ?_
      refine AtL.move (.inl rfl) rfl rfl ?_
      refine AtL.join 3 (E' := [(29, .bool (decide ((60 < (l.length : Int)) ∨ (9000 < (n : Int)))))]) (H' := H) (fun J => ?_) ?_
      · refine AtL.split (t := 26) rfl ?_ ?_
        · intro hs26
          have hs26 : 60 < (l.length : Int) := of_decide_eq_true hs26
          refine AtL.skipped rfl rfl rfl rfl rfl rfl ?_
          refine AtL.skipped rfl rfl rfl rfl rfl rfl ?_
          refine AtL.pickT (.inl rfl) rfl rfl rfl ?_
          exact J _ (by exact ⟨(boolIs (by clear J; first | (simp [hs26]; done) | (simp_all; done) | grind)), trivial⟩)
        · intro hs26
          have hs26 : ¬ (60 < (l.length : Int)) := of_decide_eq_false hs26
          refine AtL.move (.inr ⟨_, _, _, rfl, rfl, rfl, rfl⟩) rfl rfl ?_
          refine AtL.gtr (.inr ⟨_, _, _, rfl, rfl, rfl, rfl⟩) rfl rfl rfl ?_
          refine AtL.pickF (.inl rfl) rfl rfl rfl ?_
          exact J _ (by exact ⟨(boolIs (by clear J; first | (simp [hs26]; done) | (simp_all; done) | grind)), trivial⟩)
      · skip
        refine AtL.assign (.inl rfl) rfl rfl ?_
        refine AtL.done ?_
        exact At.ret Try.func19 rfl rfl (⟨_, fun hz => by have hz2 := of_decide_eq_false hz; exact ⟨by omega, fun x hx => by obtain ⟨j, hj1, rfl⟩ := List.mem_iff_getElem.1 hx; have := hj j (by omega); simp [List.getD, hj1] at this; omega⟩, rfl, rfl⟩)

theorem psend_true (l : List UInt8) : psendF true l = [] := by simp [psendF]
theorem psend_false (l : List UInt8) : psendF false l = l := by
  unfold psendF
  split
  · rename_i h
    rcases h with h | h
    · cases h
    · exact (List.eq_nil_of_length_eq_zero h).symm
  · rfl
theorem pushS_rest {h off out : Bool} {k l : List UInt8} (hk : k.length ≤ 1026) : (pushS h off out k l).rest.length ≤ 1026 := by
  unfold pushS
  split
  · exact hk
  · exact (push_rest _ _).1
/-- What a channel knows. -/
structure CS where
  h : Bool
  off : Bool
  out : Bool
  gr : Bool
  sh : Bool

set_option maxHeartbeats 400000 in
theorem pplain_ok {w0 : World} {base : Nat} {H : List Seg} {A : Option Addr} {C : Nat} {l : List (Int × Bs)} (h : Rd tyAct w0 base H A C l) (he : ∀ x ∈ l, Rd tyB w0 base H x.2.A x.2.C x.2.l) (hb : ∀ x ∈ l, x.2.l.length ≤ 140737488351232) (hl : l.length ≤ 140737488351232) :
    SCalls Try.prog 8 [.slice A l.length C] w0 base (H) (fun v H' => v = .bool true ∧ H' = H) := by
  refine SCalls.of_walk (n := 86) Try.func8 rfl rfl rfl fun cs => ?_
  refine At.seq ?_
  refine At.region ?_
  refine AtL.assign (.inl rfl) rfl rfl ?_
  refine AtL.done ?_
  refine At.seq ?_
  refine At.region ?_
  refine AtL.call tf_body9 (.inl rfl) rfl rfl awake_ok ?_
  rintro _ _ ⟨rfl, hHq⟩
  obtain rfl := hHq.symm
  refine AtL.assign (.inl rfl) rfl rfl ?_
  refine AtL.done ?_
  refine At.seq ?_
  refine At.region ?_
  refine AtL.call tf_body26 (.inl rfl) rfl rfl plain_ok ?_
  rintro _ _ ⟨b1, rfl, rfl⟩
  refine AtL.assign (.inl rfl) rfl rfl ?_
  refine AtL.done ?_
  refine At.seq ?_
  refine At.seq ?_
  refine At.region ?_
  refine AtL.move (.inl rfl) rfl rfl ?_
  refine AtL.eqIfaceNil Try.underlying39 (.inl rfl) rfl rfl rfl ?_
  refine AtL.done ?_
  refine At.condF rfl ?_
  refine At.skip ?_
  refine At.seq ?_
  refine At.seq ?_
  refine At.region ?_
  refine AtL.move (.inl rfl) rfl rfl ?_
  refine AtL.call tf_body19 (.inl rfl) rfl rfl (long_ok (l := l) (Rd.skip 1 h) hb hl) ?_
  rintro _ _ ⟨z2, hz3, rfl, rfl⟩
  have hlong := hz3
  refine AtL.done ?_
  refine At.cond rfl ?_ ?_
  · intro hc2
    have hc2 : z2 = true := hc2
    refine At.seq ?_
    refine At.region ?_
    refine AtL.move (.inl rfl) rfl rfl ?_
    refine AtL.assign (.inl rfl) rfl rfl ?_
    refine AtL.done ?_
    refine At.pick (H' := H) [] 1 rfl rfl ?_
    exact At.ret Try.func8 rfl rfl (⟨rfl, rfl⟩)
  · intro hc2
    have hc2 : z2 = false := hc2
    refine At.skip ?_
    refine At.seq ?_
    refine At.region ?_
    refine AtL.assign (.inl rfl) rfl rfl ?_
    refine AtL.done ?_
    refine At.seq ?_
    refine At.seq ?_
    refine At.region ?_
    refine AtL.assign (.inl rfl) rfl rfl ?_
    refine AtL.done ?_
    refine At.block ?_
    obtain ⟨hl60, hb9⟩ := hlong hc2
    refine At.loop2 (fun (i : Nat) (sh : Bool) => [(0, .slice A l.length C), (3, .bool true), (4, .iface 62 (.pointer (some ⟨b1, 0, none⟩))), (5, .bool sh), (6, .int .i64 (i : Int))]) (fun (i : Nat) (sh : Bool) => [(b1, .cells #[.bool sh] 64 (0, 0))] :: H) (fun (i : Nat) (sh : Bool) => i ≤ l.length) (fun (i : Nat) (sh : Bool) => l.length - i) 0 false (Nat.zero_le _) ⟨rfl, rfl, rfl, rfl, rfl, trivial⟩ rfl ?_
    rintro i sh hi ihL1
    refine At.seq ?_
    refine At.seq ?_
    refine At.region ?_
    refine AtL.move (.inl rfl) rfl rfl ?_
    refine AtL.move (.inl rfl) rfl rfl ?_
    refine AtL.lenL Try.underlying37 (.inl rfl) rfl rfl ?_
    refine AtL.lss (.inl rfl) rfl rfl rfl ?_
    refine AtL.done ?_
    refine At.cond rfl ?_ ?_
    · intro hc3
      have hc3 : (i : Int) < (l.length : Int) := of_decide_eq_true hc3
      have hb1 := hb9 _ (getD_mem (l := l) (i := i) (d := ((0, ⟨none, 0, []⟩) : Int × Bs)) (by omega))
      refine At.skip ?_
      refine At.seq ?_
      refine At.block ?_
      refine At.seq ?_
      refine At.region ?_
      refine AtL.assign (.inl rfl) rfl rfl ?_
      refine AtL.done ?_
      refine At.seq ?_
      refine At.region ?_
      refine AtL.move (.inl rfl) rfl rfl ?_
      refine AtL.move (.inl rfl) rfl rfl ?_
      refine AtL.indexL i (Rd.skip 1 h) Try.underlying37 tf_sz46 (.inl rfl) rfl rfl rfl rfl (by omega) ?_
      refine AtL.fieldAddr tf_fo46_1 (.inl rfl) rfl rfl ?_
      refine AtL.load (v := .slice ((l.getD i ((0, ⟨none, 0, []⟩) : Int × Bs)).2.A) ((l.getD i ((0, ⟨none, 0, []⟩) : Int × Bs)).2.l).length ((l.getD i ((0, ⟨none, 0, []⟩) : Int × Bs)).2.C)) tf_flat22 (.inl rfl) rfl rfl (Rd.cell_at (Rd.skip 1 h) (j := 1) (getD_some ((0, ⟨none, 0, []⟩) : Int × Bs) (by omega)) rfl) ?_
      refine AtL.assign (.inl rfl) rfl rfl ?_
      refine AtL.done ?_
      refine At.seq ?_
      refine At.seq ?_
      refine At.region ?_
      refine AtL.move (.inl rfl) rfl rfl ?_
      refine AtL.move (.inl rfl) rfl rfl ?_
      refine AtL.indexL i (Rd.skip 1 h) Try.underlying37 tf_sz46 (.inl rfl) rfl rfl rfl rfl (by omega) ?_
      refine AtL.fieldAddr tf_fo46_0 (.inl rfl) rfl rfl ?_
      refine AtL.load (v := .int .i64 ((l.getD i ((0, ⟨none, 0, []⟩) : Int × Bs)).1)) tf_flat3 (.inl rfl) rfl rfl (Rd.cell_at (Rd.skip 1 h) (j := 0) (getD_some ((0, ⟨none, 0, []⟩) : Int × Bs) (by omega)) rfl) ?_
      refine AtL.call tf_body21 (.inl rfl) rfl rfl (pick_ok ((l.getD i ((0, ⟨none, 0, []⟩) : Int × Bs)).1) 4 (by omega)) ?_
      rintro _ _ ⟨rfl, rfl⟩
      refine AtL.done ?_
      refine At.block ?_
      refine At.seq ?_
      refine At.region ?_
      refine AtL.eqi (.inl rfl) rfl rfl rfl ?_
      refine AtL.assign (.inl rfl) rfl rfl ?_
      refine AtL.done ?_
      refine At.cond rfl ?_ ?_
      · intro hc4
        have hc4 : (pick ((l.getD i ((0, ⟨none, 0, []⟩) : Int × Bs)).1) 4) = 2 := of_decide_eq_true hc4
        refine At.seq ?_
        refine At.draw (es := [9]) (pv := [(0, .iface 62 (.pointer (some ⟨b1, 0, none⟩))), (1, .slice A l.length C), (2, .int .i64 (i : Int)), (3, .pointer (some (eaddr A (i * tyAct.sz)))), (4, .pointer (some ((eaddr A (i * tyAct.sz)).add 1))), (5, .slice ((l.getD i ((0, ⟨none, 0, []⟩) : Int × Bs)).2.A) ((l.getD i ((0, ⟨none, 0, []⟩) : Int × Bs)).2.l).length ((l.getD i ((0, ⟨none, 0, []⟩) : Int × Bs)).2.C)), (6, .func (.method "Send") #[.iface 62 (.pointer (some ⟨b1, 0, none⟩))] #[]), (7, .func (.method "Send") #[.iface 62 (.pointer (some ⟨b1, 0, none⟩))] #[]), (8, .iface 62 (.pointer (some ⟨b1, 0, none⟩)))]) tf_mixed (by kernel_rfl) (by kernel_rfl) (by kernel_rfl) ?_
        refine ⟨⟨.inr ⟨_, rfl, rfl, .inl ⟨rfl, Do.move rfl⟩⟩, .inr ⟨_, rfl, rfl, .inl ⟨rfl, Do.move rfl⟩⟩, .inr ⟨_, rfl, rfl, .inl ⟨rfl, Do.move rfl⟩⟩, .inr ⟨_, rfl, rfl, .inl ⟨rfl, Do.indexL i (Rd.skip 1 h) Try.underlying37 tf_sz46 rfl rfl rfl (by omega)⟩⟩, .inr ⟨_, rfl, rfl, .inl ⟨rfl, Do.fieldAddr tf_fo46_1 rfl⟩⟩, .inr ⟨_, rfl, rfl, .inl ⟨rfl, Do.load (v := .slice ((l.getD i ((0, ⟨none, 0, []⟩) : Int × Bs)).2.A) ((l.getD i ((0, ⟨none, 0, []⟩) : Int × Bs)).2.l).length ((l.getD i ((0, ⟨none, 0, []⟩) : Int × Bs)).2.C)) tf_flat22 rfl (Rd.cell_at (Rd.skip 1 h) (j := 1) (getD_some ((0, ⟨none, 0, []⟩) : Int × Bs) (by omega)) rfl)⟩⟩, .inr ⟨_, rfl, rfl, .inl ⟨rfl, Do.makeFunc rfl rfl⟩⟩, .inr ⟨_, rfl, rfl, .inl ⟨rfl, Do.nilCheckM rfl (fun w => by kernel_rfl)⟩⟩, .inr ⟨_, rfl, rfl, .inl ⟨rfl, Do.move rfl⟩⟩, trivial⟩, rfl, rfl, by kernel_rfl, _, rfl, rfl, rfl, _, Do.callI tf_body72 rfl rfl (fun w => by kernel_rfl) (psend_ok (l := (l.getD i ((0, ⟨none, 0, []⟩) : Int × Bs)).2.l) (he _ (getD_mem (l := l) (i := i) (d := ((0, ⟨none, 0, []⟩) : Int × Bs)) (by omega))) (by first | omega | (simp only [List.length_append, List.length_cons, List.length_nil]; omega) | (simp; done) | (simp; omega))), ?_⟩
        rintro _ _ ⟨⟨A4, C5, l6, s7, o8⟩, hx9, rfl, rfl⟩
        obtain rfl : psendF sh ((l.getD i ((0, ⟨none, 0, []⟩) : Int × Bs)).2.l) = l6 := hx9.symm
        refine ⟨[(10, .slice A4 (psendF sh ((l.getD i ((0, ⟨none, 0, []⟩) : Int × Bs)).2.l)).length C5)], rfl, ?_⟩
        refine ⟨⟨.inr ⟨_, rfl, rfl, .inl ⟨rfl, Do.assign rfl⟩⟩, .inl (by kernel_rfl), .inl (by kernel_rfl), .inl (by kernel_rfl), .inl (by kernel_rfl), .inl (by kernel_rfl), .inl (by kernel_rfl), .inl (by kernel_rfl), .inl (by kernel_rfl), .inl (by kernel_rfl), trivial⟩, by kernel_rfl, ?_⟩
        refine At.mono (E' := [(0, .slice A l.length C), (3, .bool true), (4, .iface 62 (.pointer (some ⟨b1, 0, none⟩))), (5, .bool sh), (6, .int .i64 (i : Int)), (7, .slice A4 (psendF sh ((l.getD i ((0, ⟨none, 0, []⟩) : Int × Bs)).2.l)).length C5), (8, .slice ((l.getD i ((0, ⟨none, 0, []⟩) : Int × Bs)).2.A) ((l.getD i ((0, ⟨none, 0, []⟩) : Int × Bs)).2.l).length ((l.getD i ((0, ⟨none, 0, []⟩) : Int × Bs)).2.C))]) ⟨rfl, rfl, rfl, rfl, rfl, rfl, rfl, trivial⟩ ?_
        refine At.seq ?_
        refine At.region ?_
        refine AtL.move (.inl rfl) rfl rfl ?_
        refine AtL.done ?_
        refine At.cond rfl ?_ ?_
        · intro hc5
          have hc5 : sh = true := hc5
          subst hc5
          refine At.region ?_
          refine AtL.assign (.inl rfl) rfl rfl ?_
          refine AtL.done ?_
          refine At.inBlock ?_
          refine At.seq ?_
          refine At.region ?_
          refine AtL.move (.inl rfl) rfl rfl ?_
          refine AtL.move (.inl rfl) rfl rfl ?_
          refine AtL.call tf_body13 (.inl rfl) rfl rfl (same_ok (l := psendF true ((l.getD i ((0, ⟨none, 0, []⟩) : Int × Bs)).2.l)) (l2 := []) (o8.rd (i := 0) rfl) Rd.nil_) ?_
          rintro _ _ ⟨rfl, rfl⟩
          refine AtL.not (.inl rfl) rfl rfl ?_
          refine AtL.move (.inl rfl) rfl rfl ?_
          refine AtL.split (t := 72) rfl ?_ ?_
          · intro hs72
            have hs72 : ¬ (psendF true ((l.getD i ((0, ⟨none, 0, []⟩) : Int × Bs)).2.l) = []) := of_decide_eq_false (bnot_true hs72)
            exfalso; revert hs72; simp [psend_true, psend_false]
          · intro hs72
            have hs72 : psendF true ((l.getD i ((0, ⟨none, 0, []⟩) : Int × Bs)).2.l) = [] := of_decide_eq_true (bnot_false hs72)
            refine AtL.move (.inr ⟨_, _, _, rfl, rfl, rfl, rfl⟩) rfl rfl ?_
            refine AtL.callI tf_body70 (.inr ⟨_, _, _, rfl, rfl, rfl, rfl⟩) rfl rfl rfl (fun w => by kernel_rfl) (pleft_ok (b := b1)) ?_
            rintro _ _ ⟨rfl, rfl⟩
            refine AtL.nei (.inr ⟨_, _, _, rfl, rfl, rfl, rfl⟩) rfl rfl rfl ?_
            refine AtL.pickF (.inl rfl) rfl rfl rfl ?_
            refine AtL.move (.inl rfl) rfl rfl ?_
            refine AtL.move (.inr ⟨_, _, _, rfl, rfl, rfl, rfl⟩) rfl rfl ?_
            refine AtL.callI tf_body69 (.inr ⟨_, _, _, rfl, rfl, rfl, rfl⟩) rfl rfl rfl (fun w => by kernel_rfl) (pended_ok (b := b1)) ?_
            rintro _ _ ⟨rfl, rfl⟩
            refine AtL.pickF (.inl rfl) rfl rfl rfl ?_
            refine AtL.move (.inl rfl) rfl rfl ?_
            refine AtL.move (.inr ⟨_, _, _, rfl, rfl, rfl, rfl⟩) rfl rfl ?_
            refine AtL.callI tf_body67 (.inr ⟨_, _, _, rfl, rfl, rfl, rfl⟩) rfl rfl rfl (fun w => by kernel_rfl) (pbroken_ok (b := b1)) ?_
            rintro _ _ ⟨rfl, rfl⟩
            refine AtL.pickF (.inl rfl) rfl rfl rfl ?_
            refine AtL.done ?_
            refine At.condF rfl ?_
            refine At.skip ?_
            refine At.inBlock ?_
            refine At.region ?_
            refine AtL.move (.inl rfl) rfl rfl ?_
            refine AtL.add (z := (i : Int) + 1) (.inl rfl) rfl rfl rfl (w64 (by omega) (by omega)) ?_
            refine AtL.assign (.inl rfl) rfl rfl ?_
            refine AtL.done ?_
            refine At.pick (H' := [(b1, .cells #[.bool true] 64 (0, 0))] :: H) [1] 2 rfl rfl ?_
            exact ihL1 (i + 1) true (by omega) (by omega) _ (by exact ⟨rfl, rfl, rfl, (by first | rfl | exact slLen (by simp []) | exact intEq (by omega) | exact intEq (by simp []) | exact slLen (by simp []; omega)), (by first | rfl | exact slLen (by simp []) | exact intEq (by omega) | exact intEq (by simp []) | exact slLen (by simp []; omega)), trivial⟩)
        · intro hc5
          have hc5 : sh = false := hc5
          subst hc5
          refine At.skip ?_
          refine At.inBlock ?_
          refine At.seq ?_
          refine At.region ?_
          refine AtL.move (.inl rfl) rfl rfl ?_
          refine AtL.move (.inl rfl) rfl rfl ?_
          refine AtL.call tf_body13 (.inl rfl) rfl rfl (same_ok (l := psendF false ((l.getD i ((0, ⟨none, 0, []⟩) : Int × Bs)).2.l)) (l2 := (l.getD i ((0, ⟨none, 0, []⟩) : Int × Bs)).2.l) (o8.rd (i := 0) rfl) (Rd.skip 2 (he _ (getD_mem (l := l) (i := i) (d := ((0, ⟨none, 0, []⟩) : Int × Bs)) (by omega))))) ?_
          rintro _ _ ⟨rfl, rfl⟩
          refine AtL.not (.inl rfl) rfl rfl ?_
          refine AtL.move (.inl rfl) rfl rfl ?_
          refine AtL.split (t := 72) rfl ?_ ?_
          · intro hs72
            have hs72 : ¬ (psendF false ((l.getD i ((0, ⟨none, 0, []⟩) : Int × Bs)).2.l) = (l.getD i ((0, ⟨none, 0, []⟩) : Int × Bs)).2.l) := of_decide_eq_false (bnot_true hs72)
            exfalso; revert hs72; simp [psend_true, psend_false]
          · intro hs72
            have hs72 : psendF false ((l.getD i ((0, ⟨none, 0, []⟩) : Int × Bs)).2.l) = (l.getD i ((0, ⟨none, 0, []⟩) : Int × Bs)).2.l := of_decide_eq_true (bnot_false hs72)
            refine AtL.move (.inr ⟨_, _, _, rfl, rfl, rfl, rfl⟩) rfl rfl ?_
            refine AtL.callI tf_body70 (.inr ⟨_, _, _, rfl, rfl, rfl, rfl⟩) rfl rfl rfl (fun w => by kernel_rfl) (pleft_ok (b := b1)) ?_
            rintro _ _ ⟨rfl, rfl⟩
            refine AtL.nei (.inr ⟨_, _, _, rfl, rfl, rfl, rfl⟩) rfl rfl rfl ?_
            refine AtL.pickF (.inl rfl) rfl rfl rfl ?_
            refine AtL.move (.inl rfl) rfl rfl ?_
            refine AtL.move (.inr ⟨_, _, _, rfl, rfl, rfl, rfl⟩) rfl rfl ?_
            refine AtL.callI tf_body69 (.inr ⟨_, _, _, rfl, rfl, rfl, rfl⟩) rfl rfl rfl (fun w => by kernel_rfl) (pended_ok (b := b1)) ?_
            rintro _ _ ⟨rfl, rfl⟩
            refine AtL.pickF (.inl rfl) rfl rfl rfl ?_
            refine AtL.move (.inl rfl) rfl rfl ?_
            refine AtL.move (.inr ⟨_, _, _, rfl, rfl, rfl, rfl⟩) rfl rfl ?_
            refine AtL.callI tf_body67 (.inr ⟨_, _, _, rfl, rfl, rfl, rfl⟩) rfl rfl rfl (fun w => by kernel_rfl) (pbroken_ok (b := b1)) ?_
            rintro _ _ ⟨rfl, rfl⟩
            refine AtL.pickF (.inl rfl) rfl rfl rfl ?_
            refine AtL.done ?_
            refine At.condF rfl ?_
            refine At.skip ?_
            refine At.inBlock ?_
            refine At.region ?_
            refine AtL.move (.inl rfl) rfl rfl ?_
            refine AtL.add (z := (i : Int) + 1) (.inl rfl) rfl rfl rfl (w64 (by omega) (by omega)) ?_
            refine AtL.assign (.inl rfl) rfl rfl ?_
            refine AtL.done ?_
            refine At.pick (H' := [(b1, .cells #[.bool false] 64 (0, 0))] :: H) [1] 2 rfl rfl ?_
            exact ihL1 (i + 1) false (by omega) (by omega) _ (by exact ⟨rfl, rfl, rfl, (by first | rfl | exact slLen (by simp []) | exact intEq (by omega) | exact intEq (by simp []) | exact slLen (by simp []; omega)), (by first | rfl | exact slLen (by simp []) | exact intEq (by omega) | exact intEq (by simp []) | exact slLen (by simp []; omega)), trivial⟩)
      · intro hc4
        have hc4 : ¬ ((pick ((l.getD i ((0, ⟨none, 0, []⟩) : Int × Bs)).1) 4) = 2) := of_decide_eq_false hc4
        refine At.seq ?_
        refine At.region ?_
        refine AtL.eqi (.inl rfl) rfl rfl rfl ?_
        refine AtL.assign (.inl rfl) rfl rfl ?_
        refine AtL.done ?_
        refine At.cond rfl ?_ ?_
        · intro hc6
          have hc6 : (pick ((l.getD i ((0, ⟨none, 0, []⟩) : Int × Bs)).1) 4) = 3 := of_decide_eq_true hc6
          refine At.region ?_
          refine AtL.move (.inl rfl) rfl rfl ?_
          refine AtL.callI tf_body68 (.inl rfl) rfl rfl rfl (fun w => by kernel_rfl) pclose_ok ?_
          rintro _ _ ⟨rfl, rfl⟩
          refine AtL.assign (.inl rfl) rfl rfl ?_
          refine AtL.assign (.inl rfl) rfl rfl ?_
          refine AtL.assign (.inl rfl) rfl rfl ?_
          refine AtL.done ?_
          refine At.inBlock ?_
          refine At.seq ?_
          refine At.region ?_
          refine AtL.move (.inl rfl) rfl rfl ?_
          refine AtL.move (.inl rfl) rfl rfl ?_
          refine AtL.call tf_body13 (.inl rfl) rfl rfl (same_ok (l := []) (l2 := []) Rd.nil_ Rd.nil_) ?_
          rintro _ _ ⟨rfl, rfl⟩
          refine AtL.not (.inl rfl) rfl rfl ?_
          refine AtL.move (.inl rfl) rfl rfl ?_
          refine AtL.split (t := 72) rfl ?_ ?_
          · intro hs72
            exact Bool.noConfusion (hs72.symm.trans (congrArg not (decide_eq_true rfl)))
          · intro hs72
            have hs72 : [] = [] := of_decide_eq_true (bnot_false hs72)
            refine AtL.move (.inr ⟨_, _, _, rfl, rfl, rfl, rfl⟩) rfl rfl ?_
            refine AtL.callI tf_body70 (.inr ⟨_, _, _, rfl, rfl, rfl, rfl⟩) rfl rfl rfl (fun w => by kernel_rfl) (pleft_ok (b := b1)) ?_
            rintro _ _ ⟨rfl, rfl⟩
            refine AtL.nei (.inr ⟨_, _, _, rfl, rfl, rfl, rfl⟩) rfl rfl rfl ?_
            refine AtL.pickF (.inl rfl) rfl rfl rfl ?_
            refine AtL.move (.inl rfl) rfl rfl ?_
            refine AtL.move (.inr ⟨_, _, _, rfl, rfl, rfl, rfl⟩) rfl rfl ?_
            refine AtL.callI tf_body69 (.inr ⟨_, _, _, rfl, rfl, rfl, rfl⟩) rfl rfl rfl (fun w => by kernel_rfl) (pended_ok (b := b1)) ?_
            rintro _ _ ⟨rfl, rfl⟩
            refine AtL.pickF (.inl rfl) rfl rfl rfl ?_
            refine AtL.move (.inl rfl) rfl rfl ?_
            refine AtL.move (.inr ⟨_, _, _, rfl, rfl, rfl, rfl⟩) rfl rfl ?_
            refine AtL.callI tf_body67 (.inr ⟨_, _, _, rfl, rfl, rfl, rfl⟩) rfl rfl rfl (fun w => by kernel_rfl) (pbroken_ok (b := b1)) ?_
            rintro _ _ ⟨rfl, rfl⟩
            refine AtL.pickF (.inl rfl) rfl rfl rfl ?_
            refine AtL.done ?_
            refine At.condF rfl ?_
            refine At.skip ?_
            refine At.inBlock ?_
            refine At.region ?_
            refine AtL.move (.inl rfl) rfl rfl ?_
            refine AtL.add (z := (i : Int) + 1) (.inl rfl) rfl rfl rfl (w64 (by omega) (by omega)) ?_
            refine AtL.assign (.inl rfl) rfl rfl ?_
            refine AtL.done ?_
            exact ihL1 (i + 1) true (by omega) (by omega) _ (by exact ⟨rfl, rfl, rfl, (by first | rfl | exact slLen (by simp []) | exact intEq (by omega) | exact intEq (by simp []) | exact slLen (by simp []; omega)), (by first | rfl | exact slLen (by simp []) | exact intEq (by omega) | exact intEq (by simp []) | exact slLen (by simp []; omega)), trivial⟩)
        · intro hc6
          have hc6 : ¬ ((pick ((l.getD i ((0, ⟨none, 0, []⟩) : Int × Bs)).1) 4) = 3) := of_decide_eq_false hc6
          refine At.seq ?_
          refine At.draw (es := [9]) (pv := [(0, .iface 62 (.pointer (some ⟨b1, 0, none⟩))), (1, .slice A l.length C), (2, .int .i64 (i : Int)), (3, .pointer (some (eaddr A (i * tyAct.sz)))), (4, .pointer (some ((eaddr A (i * tyAct.sz)).add 1))), (5, .slice ((l.getD i ((0, ⟨none, 0, []⟩) : Int × Bs)).2.A) ((l.getD i ((0, ⟨none, 0, []⟩) : Int × Bs)).2.l).length ((l.getD i ((0, ⟨none, 0, []⟩) : Int × Bs)).2.C)), (6, .func (.method "Push") #[.iface 62 (.pointer (some ⟨b1, 0, none⟩))] #[]), (7, .func (.method "Push") #[.iface 62 (.pointer (some ⟨b1, 0, none⟩))] #[]), (8, .iface 62 (.pointer (some ⟨b1, 0, none⟩)))]) tf_mixed (by kernel_rfl) (by kernel_rfl) (by kernel_rfl) ?_
          refine ⟨⟨.inr ⟨_, rfl, rfl, .inl ⟨rfl, Do.move rfl⟩⟩, .inr ⟨_, rfl, rfl, .inl ⟨rfl, Do.move rfl⟩⟩, .inr ⟨_, rfl, rfl, .inl ⟨rfl, Do.move rfl⟩⟩, .inr ⟨_, rfl, rfl, .inl ⟨rfl, Do.indexL i (Rd.skip 1 h) Try.underlying37 tf_sz46 rfl rfl rfl (by omega)⟩⟩, .inr ⟨_, rfl, rfl, .inl ⟨rfl, Do.fieldAddr tf_fo46_1 rfl⟩⟩, .inr ⟨_, rfl, rfl, .inl ⟨rfl, Do.load (v := .slice ((l.getD i ((0, ⟨none, 0, []⟩) : Int × Bs)).2.A) ((l.getD i ((0, ⟨none, 0, []⟩) : Int × Bs)).2.l).length ((l.getD i ((0, ⟨none, 0, []⟩) : Int × Bs)).2.C)) tf_flat22 rfl (Rd.cell_at (Rd.skip 1 h) (j := 1) (getD_some ((0, ⟨none, 0, []⟩) : Int × Bs) (by omega)) rfl)⟩⟩, .inr ⟨_, rfl, rfl, .inl ⟨rfl, Do.makeFunc rfl rfl⟩⟩, .inr ⟨_, rfl, rfl, .inl ⟨rfl, Do.nilCheckM rfl (fun w => by kernel_rfl)⟩⟩, .inr ⟨_, rfl, rfl, .inl ⟨rfl, Do.move rfl⟩⟩, trivial⟩, rfl, rfl, by kernel_rfl, _, rfl, rfl, rfl, _, Do.callI tf_body71 rfl rfl (fun w => by kernel_rfl) (ppush_ok (b := b1) (l := (l.getD i ((0, ⟨none, 0, []⟩) : Int × Bs)).2.l) (Rd.skip 1 (he _ (getD_mem (l := l) (i := i) (d := ((0, ⟨none, 0, []⟩) : Int × Bs)) (by omega)))) (by first | omega | (simp only [List.length_append, List.length_cons, List.length_nil]; omega) | (simp; done) | (simp; omega))), ?_⟩
          rintro _ _ ⟨⟨A16, C17, l18, s19, o20⟩, hx21, rfl, rfl⟩
          obtain rfl : (l.getD i ((0, ⟨none, 0, []⟩) : Int × Bs)).2.l = l18 := hx21.symm
          refine ⟨[(10, .tuple #[.slice A16 ((l.getD i ((0, ⟨none, 0, []⟩) : Int × Bs)).2.l).length C17, .int .i64 0]), (11, .slice A16 ((l.getD i ((0, ⟨none, 0, []⟩) : Int × Bs)).2.l).length C17), (12, .int .i64 0), (13, .slice A16 ((l.getD i ((0, ⟨none, 0, []⟩) : Int × Bs)).2.l).length C17), (14, .int .i64 0)], rfl, ?_⟩
          refine ⟨⟨.inr ⟨_, rfl, rfl, .inl ⟨rfl, Do.move rfl⟩⟩, .inr ⟨_, rfl, rfl, .inl ⟨rfl, Do.extract rfl rfl⟩⟩, .inr ⟨_, rfl, rfl, .inl ⟨rfl, Do.extract rfl rfl⟩⟩, .inr ⟨_, rfl, rfl, .inl ⟨rfl, Do.assign rfl⟩⟩, .inr ⟨_, rfl, rfl, .inl ⟨rfl, Do.assign rfl⟩⟩, .inl (by kernel_rfl), .inl (by kernel_rfl), .inl (by kernel_rfl), .inl (by kernel_rfl), .inl (by kernel_rfl), .inl (by kernel_rfl), .inl (by kernel_rfl), .inl (by kernel_rfl), .inl (by kernel_rfl), trivial⟩, by kernel_rfl, ?_⟩
          refine At.mono (E' := [(0, .slice A l.length C), (3, .bool true), (4, .iface 62 (.pointer (some ⟨b1, 0, none⟩))), (5, .bool sh), (6, .int .i64 (i : Int)), (8, .slice ((l.getD i ((0, ⟨none, 0, []⟩) : Int × Bs)).2.A) ((l.getD i ((0, ⟨none, 0, []⟩) : Int × Bs)).2.l).length ((l.getD i ((0, ⟨none, 0, []⟩) : Int × Bs)).2.C)), (9, .slice A16 ((l.getD i ((0, ⟨none, 0, []⟩) : Int × Bs)).2.l).length C17), (10, .int .i64 0)]) ⟨rfl, rfl, rfl, rfl, rfl, rfl, rfl, rfl, trivial⟩ ?_
          refine At.seq ?_
          refine At.seq ?_
          refine At.region ?_
          refine AtL.move (.inl rfl) rfl rfl ?_
          refine AtL.nei (.inl rfl) rfl rfl rfl ?_
          refine AtL.done ?_
          refine At.condF rfl ?_
          refine At.skip ?_
          refine At.region ?_
          refine AtL.move (.inl rfl) rfl rfl ?_
          refine AtL.assign (.inl rfl) rfl rfl ?_
          refine AtL.done ?_
          refine At.inBlock ?_
          refine At.seq ?_
          refine At.region ?_
          refine AtL.move (.inl rfl) rfl rfl ?_
          refine AtL.move (.inl rfl) rfl rfl ?_
          refine AtL.call tf_body13 (.inl rfl) rfl rfl (same_ok (l := (l.getD i ((0, ⟨none, 0, []⟩) : Int × Bs)).2.l) (l2 := (l.getD i ((0, ⟨none, 0, []⟩) : Int × Bs)).2.l) (o20.rd (i := 0) rfl) (Rd.skip 2 (he _ (getD_mem (l := l) (i := i) (d := ((0, ⟨none, 0, []⟩) : Int × Bs)) (by omega))))) ?_
          rintro _ _ ⟨rfl, rfl⟩
          refine AtL.not (.inl rfl) rfl rfl ?_
          refine AtL.move (.inl rfl) rfl rfl ?_
          refine AtL.split (t := 72) rfl ?_ ?_
          · intro hs72
            exact Bool.noConfusion (hs72.symm.trans (congrArg not (decide_eq_true rfl)))
          · intro hs72
            have hs72 : (l.getD i ((0, ⟨none, 0, []⟩) : Int × Bs)).2.l = (l.getD i ((0, ⟨none, 0, []⟩) : Int × Bs)).2.l := of_decide_eq_true (bnot_false hs72)
            refine AtL.move (.inr ⟨_, _, _, rfl, rfl, rfl, rfl⟩) rfl rfl ?_
            refine AtL.callI tf_body70 (.inr ⟨_, _, _, rfl, rfl, rfl, rfl⟩) rfl rfl rfl (fun w => by kernel_rfl) (pleft_ok (b := b1)) ?_
            rintro _ _ ⟨rfl, rfl⟩
            refine AtL.nei (.inr ⟨_, _, _, rfl, rfl, rfl, rfl⟩) rfl rfl rfl ?_
            refine AtL.pickF (.inl rfl) rfl rfl rfl ?_
            refine AtL.move (.inl rfl) rfl rfl ?_
            refine AtL.move (.inr ⟨_, _, _, rfl, rfl, rfl, rfl⟩) rfl rfl ?_
            refine AtL.callI tf_body69 (.inr ⟨_, _, _, rfl, rfl, rfl, rfl⟩) rfl rfl rfl (fun w => by kernel_rfl) (pended_ok (b := b1)) ?_
            rintro _ _ ⟨rfl, rfl⟩
            refine AtL.pickF (.inl rfl) rfl rfl rfl ?_
            refine AtL.move (.inl rfl) rfl rfl ?_
            refine AtL.move (.inr ⟨_, _, _, rfl, rfl, rfl, rfl⟩) rfl rfl ?_
            refine AtL.callI tf_body67 (.inr ⟨_, _, _, rfl, rfl, rfl, rfl⟩) rfl rfl rfl (fun w => by kernel_rfl) (pbroken_ok (b := b1)) ?_
            rintro _ _ ⟨rfl, rfl⟩
            refine AtL.pickF (.inl rfl) rfl rfl rfl ?_
            refine AtL.done ?_
            refine At.condF rfl ?_
            refine At.skip ?_
            refine At.inBlock ?_
            refine At.region ?_
            refine AtL.move (.inl rfl) rfl rfl ?_
            refine AtL.add (z := (i : Int) + 1) (.inl rfl) rfl rfl rfl (w64 (by omega) (by omega)) ?_
            refine AtL.assign (.inl rfl) rfl rfl ?_
            refine AtL.done ?_
            refine At.pick (H' := [(b1, .cells #[.bool sh] 64 (0, 0))] :: H) [1] 2 rfl rfl ?_
            exact ihL1 (i + 1) sh (by omega) (by omega) _ (by exact ⟨rfl, rfl, rfl, (by first | rfl | exact slLen (by simp []) | exact intEq (by omega) | exact intEq (by simp []) | exact slLen (by simp []; omega)), (by first | rfl | exact slLen (by simp []) | exact intEq (by omega) | exact intEq (by simp []) | exact slLen (by simp []; omega)), trivial⟩)
    · intro hc3
      have hc3 : ¬ ((i : Int) < (l.length : Int)) := of_decide_eq_false hc3
      refine At.exit rfl ?_
      refine At.seq ?_
      refine At.region ?_
      refine AtL.move (.inl rfl) rfl rfl ?_
      refine AtL.assign (.inl rfl) rfl rfl ?_
      refine AtL.done ?_
      refine At.pick (H' := H) [] 1 rfl rfl ?_
      exact At.ret Try.func8 rfl rfl (⟨rfl, rfl⟩)

set_option maxHeartbeats 400000 in
theorem made_t {w0 : World} {base : Nat} {H : List Seg}  :
    SCalls Try.prog 18 [.bool true] w0 base (H) (fun v H' => ∃ b : Nat, v = .iface 58 (.pointer (some ⟨b, 0, none⟩)) ∧ H' = [(b, .cells #[.slice none 0 0, .bool false, .bool false, .bool false, .bool false, .bool false] 61 (0, 0))] :: H) := by
  refine SCalls.of_walk (n := 6) Try.func18 rfl rfl rfl fun cs => ?_
  refine At.seq ?_
  refine At.region ?_
  refine AtL.assign (.inl rfl) rfl rfl ?_
  refine AtL.done ?_
  refine At.seq ?_
  refine At.seq ?_
  refine At.region ?_
  refine AtL.move (.inl rfl) rfl rfl ?_
  refine AtL.done ?_
  refine At.condT rfl ?_
  refine At.seq ?_
  refine At.region ?_
  refine AtL.call tf_body25 (.inl rfl) rfl rfl sealed_ok ?_
  rintro _ _ ⟨b1, rfl, rfl⟩
  refine AtL.assign (.inl rfl) rfl rfl ?_
  refine AtL.done ?_
  exact At.ret Try.func18 rfl rfl (⟨_, rfl, rfl⟩)

set_option maxHeartbeats 400000 in
theorem made_f {w0 : World} {base : Nat} {H : List Seg}  :
    SCalls Try.prog 18 [.bool false] w0 base (H) (fun v H' => ∃ b : Nat, v = .iface 62 (.pointer (some ⟨b, 0, none⟩)) ∧ H' = [(b, .cells #[.bool false] 64 (0, 0))] :: H) := by
  refine SCalls.of_walk (n := 6) Try.func18 rfl rfl rfl fun cs => ?_
  refine At.seq ?_
  refine At.region ?_
  refine AtL.assign (.inl rfl) rfl rfl ?_
  refine AtL.done ?_
  refine At.seq ?_
  refine At.seq ?_
  refine At.region ?_
  refine AtL.move (.inl rfl) rfl rfl ?_
  refine AtL.done ?_
  refine At.condF rfl ?_
  refine At.skip ?_
  refine At.seq ?_
  refine At.region ?_
  refine AtL.call tf_body26 (.inl rfl) rfl rfl plain_ok ?_
  rintro _ _ ⟨b1, rfl, rfl⟩
  refine AtL.assign (.inl rfl) rfl rfl ?_
  refine AtL.done ?_
  exact At.ret Try.func18 rfl rfl (⟨_, rfl, rfl⟩)

set_option maxHeartbeats 2000000 in
theorem script_t {w0 : World} {base : Nat} {H : List Seg} {A : Option Addr} {C : Nat} {l : List (Int × Bs)} (h : Rd tyAct w0 base H A C l) (he : ∀ x ∈ l, Rd tyB w0 base H x.2.A x.2.C x.2.l) (hb : ∀ x ∈ l, x.2.l.length ≤ 140737488351232) (hl : l.length ≤ 140737488351232) :
    SCalls Try.prog 5 [.bool true, .slice A l.length C] w0 base (H) (fun v H' => v = .bool true ∧ H' = H) := by
  refine SCalls.of_walk (n := 137) Try.func5 rfl rfl rfl fun cs => ?_
  refine At.seq ?_
  refine At.region ?_
  refine AtL.assign (.inl rfl) rfl rfl ?_
  refine AtL.done ?_
  refine At.seq ?_
  refine At.region ?_
  refine AtL.move (.inl rfl) rfl rfl ?_
  refine AtL.call tf_body18 (.inl rfl) rfl rfl made_t ?_
  rintro _ _ ⟨b1, rfl, rfl⟩
  refine AtL.assign (.inl rfl) rfl rfl ?_
  refine AtL.done ?_
  refine At.seq ?_
  refine At.seq ?_
  refine At.region ?_
  refine AtL.move (.inl rfl) rfl rfl ?_
  refine AtL.eqIfaceNil Try.underlying39 (.inl rfl) rfl rfl rfl ?_
  refine AtL.done ?_
  refine At.condF rfl ?_
  refine At.skip ?_
  refine At.seq ?_
  refine At.seq ?_
  refine At.region ?_
  refine AtL.move (.inl rfl) rfl rfl ?_
  refine AtL.call tf_body19 (.inl rfl) rfl rfl (long_ok (l := l) (Rd.skip 1 h) hb hl) ?_
  rintro _ _ ⟨z2, hz3, rfl, rfl⟩
  have hlong := hz3
  refine AtL.done ?_
  refine At.cond rfl ?_ ?_
  · intro hc2
    have hc2 : z2 = true := hc2
    refine At.seq ?_
    refine At.region ?_
    refine AtL.call tf_body9 (.inl rfl) rfl rfl awake_ok ?_
    rintro _ _ ⟨rfl, rfl⟩
    refine AtL.assign (.inl rfl) rfl rfl ?_
    refine AtL.done ?_
    refine At.pick (H' := H) [] 1 rfl rfl ?_
    exact At.ret Try.func5 rfl rfl (⟨rfl, rfl⟩)
  · intro hc2
    have hc2 : z2 = false := hc2
    refine At.skip ?_
    refine At.seq ?_
    refine At.region ?_
    refine AtL.move (.inl rfl) rfl rfl ?_
    refine AtL.build (cs := [.bool true, .slice none 0 0, .bool false, .bool false, .bool false, .bool false, .bool false]) tf_lay44 (.inl rfl) rfl rfl rfl ?_
    refine AtL.box (cs := #[.bool true, .slice none 0 0, .bool false, .bool false, .bool false, .bool false, .bool false]) rfl (.inl rfl) rfl rfl ?_
    intro b4
    refine AtL.assign (.inl rfl) rfl rfl ?_
    refine AtL.done ?_
    refine At.seq ?_
    refine At.seq ?_
    refine At.region ?_
    refine AtL.assign (.inl rfl) rfl rfl ?_
    refine AtL.done ?_
    refine At.block ?_
    obtain ⟨hl60, hb9⟩ := hlong hc2
    refine At.nil ?_
    refine At.nil ?_
    refine At.pick (H' := [] :: [] :: [(b1, .cells #[.slice none 0 0, .bool false, .bool false, .bool false, .bool false, .bool false] 61 (0, 0))] :: [(b4, .cells #[.bool true, .slice none 0 0, .bool false, .bool false, .bool false, .bool false, .bool false] 44 (0, 0))] :: H) [0, 1, 3, 2] 4 rfl rfl ?_
    refine At.loop4 (fun (i : Nat) (z : Sl tyB 5) (z2 : Sl tyB 5) (t : CS) => [(1, .slice A l.length C), (5, .iface 58 (.pointer (some ⟨b1, 0, none⟩))), (6, .pointer (some ⟨b4, 0, none⟩)), (7, .int .i64 (i : Int))]) (fun (i : Nat) (z : Sl tyB 5) (z2 : Sl tyB 5) (t : CS) => z.s :: z2.s :: [(b1, .cells #[.slice z.A z.l.length z.C, .bool t.h, .bool t.off, .bool t.out, .bool t.gr, .bool t.sh] 61 (0, 0))] :: [(b4, .cells #[.bool true, .slice z2.A z2.l.length z2.C, .bool t.h, .bool t.out, .bool t.off, .bool t.gr, .bool t.sh] 44 (0, 0))] :: H) (fun (i : Nat) (z : Sl tyB 5) (z2 : Sl tyB 5) (t : CS) => i ≤ l.length ∧ z2.l = z.l ∧ z.l.length ≤ 1026) (fun (i : Nat) (z : Sl tyB 5) (z2 : Sl tyB 5) (t : CS) => l.length - i) 0 Sl.nil Sl.nil (⟨false, false, false, false, false⟩) (⟨Nat.zero_le _, rfl, by simp [Sl.nil]⟩) ⟨rfl, rfl, rfl, rfl, trivial⟩ rfl ?_
    rintro i z z2 t ⟨hi, hz, hzl⟩ ihL1
    have hzl2 : z2.l.length ≤ 1026 := by rw [hz]; exact hzl
    refine At.seq ?_
    refine At.seq ?_
    refine At.region ?_
    refine AtL.move (.inl rfl) rfl rfl ?_
    refine AtL.move (.inl rfl) rfl rfl ?_
    refine AtL.lenL Try.underlying37 (.inl rfl) rfl rfl ?_
    refine AtL.lss (.inl rfl) rfl rfl rfl ?_
    refine AtL.done ?_
    refine At.cond rfl ?_ ?_
    · intro hc3
      have hc3 : (i : Int) < (l.length : Int) := of_decide_eq_true hc3
      have hb1 := hb9 _ (getD_mem (l := l) (i := i) (d := ((0, ⟨none, 0, []⟩) : Int × Bs)) (by omega))
      refine At.skip ?_
      refine At.seq ?_
      refine At.block ?_
      refine At.seq ?_
      refine At.region ?_
      refine AtL.move (.inl rfl) rfl rfl ?_
      refine AtL.move (.inl rfl) rfl rfl ?_
      refine AtL.indexL i (Rd.skip 4 h) Try.underlying37 tf_sz46 (.inl rfl) rfl rfl rfl rfl (by omega) ?_
      refine AtL.fieldAddr tf_fo46_1 (.inl rfl) rfl rfl ?_
      refine AtL.load (v := .slice ((l.getD i ((0, ⟨none, 0, []⟩) : Int × Bs)).2.A) ((l.getD i ((0, ⟨none, 0, []⟩) : Int × Bs)).2.l).length ((l.getD i ((0, ⟨none, 0, []⟩) : Int × Bs)).2.C)) tf_flat22 (.inl rfl) rfl rfl (Rd.cell_at (Rd.skip 4 h) (j := 1) (getD_some ((0, ⟨none, 0, []⟩) : Int × Bs) (by omega)) rfl) ?_
      refine AtL.call tf_body20 (.inl rfl) rfl rfl (copy_ok (l := (l.getD i ((0, ⟨none, 0, []⟩) : Int × Bs)).2.l) (Rd.skip 4 (he _ (getD_mem (l := l) (i := i) (d := ((0, ⟨none, 0, []⟩) : Int × Bs)) (by omega)))) (by omega)) ?_
      rintro _ _ ⟨A5, C6, s7, o8, rfl, rfl⟩
      refine AtL.assign (.inl rfl) rfl rfl ?_
      refine AtL.done ?_
      refine At.seq ?_
      refine At.seq ?_
      refine At.region ?_
      refine AtL.move (.inl rfl) rfl rfl ?_
      refine AtL.move (.inl rfl) rfl rfl ?_
      refine AtL.indexL i (Rd.skip 5 h) Try.underlying37 tf_sz46 (.inl rfl) rfl rfl rfl rfl (by omega) ?_
      refine AtL.fieldAddr tf_fo46_0 (.inl rfl) rfl rfl ?_
      refine AtL.load (v := .int .i64 ((l.getD i ((0, ⟨none, 0, []⟩) : Int × Bs)).1)) tf_flat3 (.inl rfl) rfl rfl (Rd.cell_at (Rd.skip 5 h) (j := 0) (getD_some ((0, ⟨none, 0, []⟩) : Int × Bs) (by omega)) rfl) ?_
      refine AtL.call tf_body21 (.inl rfl) rfl rfl (pick_ok ((l.getD i ((0, ⟨none, 0, []⟩) : Int × Bs)).1) 4 (by omega)) ?_
      rintro _ _ ⟨rfl, rfl⟩
      refine AtL.done ?_
      refine At.block ?_
      refine At.seq ?_
      refine At.region ?_
      refine AtL.eqi (.inl rfl) rfl rfl rfl ?_
      refine AtL.assign (.inl rfl) rfl rfl ?_
      refine AtL.done ?_
      refine At.cond rfl ?_ ?_
      · intro hc4
        have hc4 : (pick ((l.getD i ((0, ⟨none, 0, []⟩) : Int × Bs)).1) 4) = 2 := of_decide_eq_true hc4
        refine At.seq ?_
        refine At.region ?_
        refine AtL.move (.inl rfl) rfl rfl ?_
        refine AtL.move (.inl rfl) rfl rfl ?_
        refine AtL.pick (H' := [(b1, .cells #[.slice z.A z.l.length z.C, .bool t.h, .bool t.off, .bool t.out, .bool t.gr, .bool t.sh] 61 (0, 0))] :: s7 :: z.s :: z2.s :: [(b4, .cells #[.bool true, .slice z2.A z2.l.length z2.C, .bool t.h, .bool t.out, .bool t.off, .bool t.gr, .bool t.sh] 44 (0, 0))] :: H) [3, 0, 1, 2, 4] 5 rfl rfl ?_
        refine AtL.callI tf_body54 (.inl rfl) rfl rfl rfl (fun w => by kernel_rfl) (send_ok (l := (l.getD i ((0, ⟨none, 0, []⟩) : Int × Bs)).2.l) (o8.rd (i := 0) rfl) (by first | omega | (simp only [List.length_append, List.length_cons, List.length_nil]; omega) | (simp; done) | (simp; omega))) ?_
        rintro _ _ ⟨⟨A9, C10, l11, s12, o13⟩, hx14, rfl, rfl⟩
        obtain rfl : sendF t.gr t.sh ((l.getD i ((0, ⟨none, 0, []⟩) : Int × Bs)).2.l) = l11 := hx14.symm
        refine AtL.assign (.inl rfl) rfl rfl ?_
        refine AtL.done ?_
        refine At.seq ?_
        refine At.seq ?_
        refine At.region ?_
        refine AtL.move (.inl rfl) rfl rfl ?_
        refine AtL.move (.inl rfl) rfl rfl ?_
        refine AtL.move (.inl rfl) rfl rfl ?_
        refine AtL.move (.inl rfl) rfl rfl ?_
        refine AtL.indexL i (Rd.skip 6 h) Try.underlying37 tf_sz46 (.inl rfl) rfl rfl rfl rfl (by omega) ?_
        refine AtL.fieldAddr tf_fo46_1 (.inl rfl) rfl rfl ?_
        refine AtL.load (v := .slice ((l.getD i ((0, ⟨none, 0, []⟩) : Int × Bs)).2.A) ((l.getD i ((0, ⟨none, 0, []⟩) : Int × Bs)).2.l).length ((l.getD i ((0, ⟨none, 0, []⟩) : Int × Bs)).2.C)) tf_flat22 (.inl rfl) rfl rfl (Rd.cell_at (Rd.skip 6 h) (j := 1) (getD_some ((0, ⟨none, 0, []⟩) : Int × Bs) (by omega)) rfl) ?_
        refine AtL.pick (H' := [(b4, .cells #[.bool true, .slice z2.A z2.l.length z2.C, .bool t.h, .bool t.out, .bool t.off, .bool t.gr, .bool t.sh] 44 (0, 0))] :: s12 :: [(b1, .cells #[.slice z.A z.l.length z.C, .bool t.h, .bool t.off, .bool t.out, .bool (sentF true t.gr t.sh ((l.getD i ((0, ⟨none, 0, []⟩) : Int × Bs)).2.l)), .bool t.sh] 61 (0, 0))] :: s7 :: z.s :: z2.s :: H) [5, 0, 1, 2, 3, 4] 6 rfl rfl ?_
        refine AtL.call tf_body22 (.inl rfl) rfl rfl (rsend_ok (l := (l.getD i ((0, ⟨none, 0, []⟩) : Int × Bs)).2.l) (Rd.skip 5 (he _ (getD_mem (l := l) (i := i) (d := ((0, ⟨none, 0, []⟩) : Int × Bs)) (by omega)))) (by first | omega | (simp only [List.length_append, List.length_cons, List.length_nil]; omega) | (simp; done) | (simp; omega))) ?_
        rintro _ _ ⟨⟨A15, C16, l17, s18, o19⟩, hx20, rfl, rfl⟩
        obtain rfl : sendF t.gr t.sh ((l.getD i ((0, ⟨none, 0, []⟩) : Int × Bs)).2.l) = l17 := hx20.symm
        refine AtL.call tf_body13 (.inl rfl) rfl rfl (same_ok (l := sendF t.gr t.sh ((l.getD i ((0, ⟨none, 0, []⟩) : Int × Bs)).2.l)) (l2 := sendF t.gr t.sh ((l.getD i ((0, ⟨none, 0, []⟩) : Int × Bs)).2.l)) (o13.rd (i := 2) rfl) (o19.rd (i := 0) rfl)) ?_
        rintro _ _ ⟨rfl, rfl⟩
        refine AtL.not (.inl rfl) rfl rfl ?_
        refine AtL.done ?_
        refine At.condIs false rfl (congrArg not (decide_eq_true rfl)) ?_
        refine At.skip ?_
        refine At.region ?_
        refine AtL.move (.inl rfl) rfl rfl ?_
        refine AtL.pick (H' := s12 :: s18 :: [(b4, .cells #[.bool true, .slice z2.A z2.l.length z2.C, .bool t.h, .bool t.out, .bool t.off, .bool (sentF true t.gr t.sh ((l.getD i ((0, ⟨none, 0, []⟩) : Int × Bs)).2.l)), .bool t.sh] 44 (0, 0))] :: [(b1, .cells #[.slice z.A z.l.length z.C, .bool t.h, .bool t.off, .bool t.out, .bool (sentF true t.gr t.sh ((l.getD i ((0, ⟨none, 0, []⟩) : Int × Bs)).2.l)), .bool t.sh] 61 (0, 0))] :: s7 :: z.s :: z2.s :: H) [2, 0, 1, 3, 4, 5, 6] 7 rfl rfl ?_
        refine AtL.call tf_body14 (.inl rfl) rfl rfl (over_own o13) ?_
        rintro _ _ ⟨s21, rfl, rfl⟩
        refine AtL.done ?_
        refine At.inBlock ?_
        refine At.seq ?_
        refine At.seq ?_
        refine At.draw (es := [10, 20, 29]) (pv := [(0, .slice A5 ((l.getD i ((0, ⟨none, 0, []⟩) : Int × Bs)).2.l).length C6), (1, .slice A l.length C), (2, .int .i64 (i : Int)), (3, .pointer (some (eaddr A (i * tyAct.sz)))), (4, .pointer (some ((eaddr A (i * tyAct.sz)).add 1))), (5, .slice ((l.getD i ((0, ⟨none, 0, []⟩) : Int × Bs)).2.A) ((l.getD i ((0, ⟨none, 0, []⟩) : Int × Bs)).2.l).length ((l.getD i ((0, ⟨none, 0, []⟩) : Int × Bs)).2.C)), (6, .bool true), (7, .bool false), (8, .bool false), (9, .iface 58 (.pointer (some ⟨b1, 0, none⟩))), (11, .pointer (some ⟨b4, 0, none⟩)), (12, .pointer (some ⟨b4, 0, none⟩)), (13, .pointer (some ⟨b4, 1, none⟩)), (14, .slice z2.A z2.l.length z2.C), (15, .int .i64 (z2.l.length : Int))]) tf_mixed (by kernel_rfl) (by kernel_rfl) (by kernel_rfl) ?_
        refine ⟨⟨.inr ⟨_, rfl, rfl, .inl ⟨rfl, Do.move rfl⟩⟩, .inr ⟨_, rfl, rfl, .inl ⟨rfl, Do.move rfl⟩⟩, .inr ⟨_, rfl, rfl, .inl ⟨rfl, Do.move rfl⟩⟩, .inr ⟨_, rfl, rfl, .inl ⟨rfl, Do.indexL i (Rd.skip 7 h) Try.underlying37 tf_sz46 rfl rfl rfl (by omega)⟩⟩, .inr ⟨_, rfl, rfl, .inl ⟨rfl, Do.fieldAddr tf_fo46_1 rfl⟩⟩, .inr ⟨_, rfl, rfl, .inl ⟨rfl, Do.load (v := .slice ((l.getD i ((0, ⟨none, 0, []⟩) : Int × Bs)).2.A) ((l.getD i ((0, ⟨none, 0, []⟩) : Int × Bs)).2.l).length ((l.getD i ((0, ⟨none, 0, []⟩) : Int × Bs)).2.C)) tf_flat22 rfl (Rd.cell_at (Rd.skip 7 h) (j := 1) (getD_some ((0, ⟨none, 0, []⟩) : Int × Bs) (by omega)) rfl)⟩⟩, .inr ⟨_, rfl, rfl, .inl ⟨rfl, Do.asBool (Do.call tf_body13 rfl (same_ok (l := (l.getD i ((0, ⟨none, 0, []⟩) : Int × Bs)).2.l) (l2 := (l.getD i ((0, ⟨none, 0, []⟩) : Int × Bs)).2.l) (o8.rd (i := 4) rfl) (Rd.skip 7 (he _ (getD_mem (l := l) (i := i) (d := ((0, ⟨none, 0, []⟩) : Int × Bs)) (by omega)))))) (decide_eq_true rfl)⟩⟩, .inr ⟨_, rfl, rfl, .inl ⟨rfl, Do.not (b := true) rfl⟩⟩, .inr ⟨_, rfl, rfl, .inl ⟨rfl, Do.move rfl⟩⟩, .inr ⟨_, rfl, rfl, .inl ⟨⟨_, _, _, rfl, rfl, rfl, rfl⟩, Do.move rfl⟩⟩, .inr ⟨_, rfl, rfl, .inl ⟨⟨_, _, _, rfl, rfl, rfl, rfl⟩, Do.move rfl⟩⟩, .inr ⟨_, rfl, rfl, .inl ⟨⟨_, _, _, rfl, rfl, rfl, rfl⟩, Do.nilCheck rfl⟩⟩, .inr ⟨_, rfl, rfl, .inl ⟨⟨_, _, _, rfl, rfl, rfl, rfl⟩, Do.fieldAddrB tf_fo44_1 rfl rfl⟩⟩, .inr ⟨_, rfl, rfl, .inl ⟨⟨_, _, _, rfl, rfl, rfl, rfl⟩, Do.load tf_flat22 rfl (Cell.own 2 0 rfl rfl rfl)⟩⟩, .inr ⟨_, rfl, rfl, .inl ⟨⟨_, _, _, rfl, rfl, rfl, rfl⟩, Do.lenL Try.underlying22 rfl⟩⟩, trivial⟩, rfl, rfl, by kernel_rfl, _, rfl, rfl, ⟨_, _, _, rfl, rfl, rfl, rfl⟩, _, Does.pick (H' := [(b1, .cells #[.slice z.A z.l.length z.C, .bool t.h, .bool t.off, .bool t.out, .bool (sentF true t.gr t.sh ((l.getD i ((0, ⟨none, 0, []⟩) : Int × Bs)).2.l)), .bool t.sh] 61 (0, 0))] :: s21 :: s18 :: [(b4, .cells #[.bool true, .slice z2.A z2.l.length z2.C, .bool t.h, .bool t.out, .bool t.off, .bool (sentF true t.gr t.sh ((l.getD i ((0, ⟨none, 0, []⟩) : Int × Bs)).2.l)), .bool t.sh] 44 (0, 0))] :: s7 :: z.s :: z2.s :: H) [3, 0, 1, 2, 4, 5, 6] 7 rfl rfl (Do.callI tf_body52 rfl rfl (fun w => by kernel_rfl) (left_ok (y := z))), ?_⟩
        rintro _ _ ⟨rfl, rfl⟩
        refine ⟨[(16, .bool false), (17, .bool false), (18, .bool false), (19, .iface 58 (.pointer (some ⟨b1, 0, none⟩))), (21, .pointer (some ⟨b4, 0, none⟩)), (22, .pointer (some ⟨b4, 0, none⟩)), (23, .pointer (some ⟨b4, 4, none⟩)), (24, .bool t.off)], rfl, ?_⟩
        refine ⟨⟨.inr ⟨_, rfl, rfl, .inl ⟨⟨_, _, _, rfl, rfl, rfl, rfl⟩, Do.asBool (Do.nei rfl rfl) (by simp [hz])⟩⟩, .inr ⟨_, rfl, rfl, .inl ⟨rfl, Do.pickF rfl rfl⟩⟩, .inr ⟨_, rfl, rfl, .inl ⟨rfl, Do.move rfl⟩⟩, .inr ⟨_, rfl, rfl, .inl ⟨⟨_, _, _, rfl, rfl, rfl, rfl⟩, Do.move rfl⟩⟩, .inr ⟨_, rfl, rfl, .inl ⟨⟨_, _, _, rfl, rfl, rfl, rfl⟩, Do.move rfl⟩⟩, .inr ⟨_, rfl, rfl, .inl ⟨⟨_, _, _, rfl, rfl, rfl, rfl⟩, Do.nilCheck rfl⟩⟩, .inr ⟨_, rfl, rfl, .inl ⟨⟨_, _, _, rfl, rfl, rfl, rfl⟩, Do.fieldAddrB tf_fo44_4 rfl rfl⟩⟩, .inr ⟨_, rfl, rfl, .inl ⟨⟨_, _, _, rfl, rfl, rfl, rfl⟩, Do.load tf_flat4 rfl (Cell.own 3 0 rfl rfl rfl)⟩⟩, .inl (by kernel_rfl), .inl (by kernel_rfl), .inl (by kernel_rfl), .inl (by kernel_rfl), .inl (by kernel_rfl), .inl (by kernel_rfl), .inl (by kernel_rfl), .inl (by kernel_rfl), .inl (by kernel_rfl), .inl (by kernel_rfl), .inr ⟨_, rfl, rfl, .inl ⟨⟨_, _, _, rfl, rfl, rfl, rfl⟩, Do.move rfl⟩⟩, .inr ⟨_, rfl, rfl, .inl ⟨⟨_, _, _, rfl, rfl, rfl, rfl⟩, Do.nilCheck rfl⟩⟩, .inr ⟨_, rfl, rfl, .inl ⟨⟨_, _, _, rfl, rfl, rfl, rfl⟩, Do.fieldAddrB tf_fo44_1 rfl rfl⟩⟩, .inr ⟨_, rfl, rfl, .inl ⟨⟨_, _, _, rfl, rfl, rfl, rfl⟩, Do.load tf_flat22 rfl (Cell.own 3 0 rfl rfl rfl)⟩⟩, .inr ⟨_, rfl, rfl, .inl ⟨⟨_, _, _, rfl, rfl, rfl, rfl⟩, Do.lenL Try.underlying22 rfl⟩⟩, trivial⟩, rfl, rfl, by kernel_rfl, _, rfl, rfl, ⟨_, _, _, rfl, rfl, rfl, rfl⟩, _, Do.callI tf_body51 rfl rfl (fun w => by kernel_rfl) ended_ok, ?_⟩
        rintro _ _ ⟨rfl, rfl⟩
        refine ⟨[(25, .bool false), (26, .bool false), (27, .bool false), (28, .iface 58 (.pointer (some ⟨b1, 0, none⟩))), (30, .pointer (some ⟨b4, 0, none⟩)), (31, .pointer (some ⟨b4, 0, none⟩)), (32, .pointer (some ⟨b4, 3, none⟩)), (33, .bool t.out)], rfl, ?_⟩
        refine ⟨⟨.inr ⟨_, rfl, rfl, .inl ⟨⟨_, _, _, rfl, rfl, rfl, rfl⟩, Do.asBool (Do.neb Try.underlying4 rfl rfl) (by simp [hz])⟩⟩, .inr ⟨_, rfl, rfl, .inl ⟨rfl, Do.pickF rfl rfl⟩⟩, .inr ⟨_, rfl, rfl, .inl ⟨rfl, Do.move rfl⟩⟩, .inr ⟨_, rfl, rfl, .inl ⟨⟨_, _, _, rfl, rfl, rfl, rfl⟩, Do.move rfl⟩⟩, .inr ⟨_, rfl, rfl, .inl ⟨⟨_, _, _, rfl, rfl, rfl, rfl⟩, Do.move rfl⟩⟩, .inr ⟨_, rfl, rfl, .inl ⟨⟨_, _, _, rfl, rfl, rfl, rfl⟩, Do.nilCheck rfl⟩⟩, .inr ⟨_, rfl, rfl, .inl ⟨⟨_, _, _, rfl, rfl, rfl, rfl⟩, Do.fieldAddrB tf_fo44_3 rfl rfl⟩⟩, .inr ⟨_, rfl, rfl, .inl ⟨⟨_, _, _, rfl, rfl, rfl, rfl⟩, Do.load tf_flat4 rfl (Cell.own 3 0 rfl rfl rfl)⟩⟩, .inl (by kernel_rfl), .inl (by kernel_rfl), .inl (by kernel_rfl), .inl (by kernel_rfl), .inr ⟨_, rfl, rfl, .inl ⟨⟨_, _, _, rfl, rfl, rfl, rfl⟩, Do.move rfl⟩⟩, .inr ⟨_, rfl, rfl, .inl ⟨⟨_, _, _, rfl, rfl, rfl, rfl⟩, Do.nilCheck rfl⟩⟩, .inr ⟨_, rfl, rfl, .inl ⟨⟨_, _, _, rfl, rfl, rfl, rfl⟩, Do.fieldAddrB tf_fo44_4 rfl rfl⟩⟩, .inr ⟨_, rfl, rfl, .inl ⟨⟨_, _, _, rfl, rfl, rfl, rfl⟩, Do.load tf_flat4 rfl (Cell.own 3 0 rfl rfl rfl)⟩⟩, .inl (by kernel_rfl), .inl (by kernel_rfl), .inl (by kernel_rfl), .inl (by kernel_rfl), .inl (by kernel_rfl), .inl (by kernel_rfl), .inl (by kernel_rfl), .inl (by kernel_rfl), .inl (by kernel_rfl), .inl (by kernel_rfl), .inl (by kernel_rfl), .inl (by kernel_rfl), .inl (by kernel_rfl), .inl (by kernel_rfl), .inl (by kernel_rfl), trivial⟩, rfl, rfl, by kernel_rfl, _, rfl, rfl, ⟨_, _, _, rfl, rfl, rfl, rfl⟩, _, Do.callI tf_body49 rfl rfl (fun w => by kernel_rfl) broken_ok, ?_⟩
        rintro _ _ ⟨rfl, rfl⟩
        refine ⟨[(34, .bool false), (35, .bool false)], rfl, ?_⟩
        refine ⟨⟨.inr ⟨_, rfl, rfl, .inl ⟨⟨_, _, _, rfl, rfl, rfl, rfl⟩, Do.asBool (Do.neb Try.underlying4 rfl rfl) (by simp [hz])⟩⟩, .inr ⟨_, rfl, rfl, .inl ⟨rfl, Do.pickF rfl rfl⟩⟩, .inl (by kernel_rfl), .inl (by kernel_rfl), .inl (by kernel_rfl), .inl (by kernel_rfl), .inr ⟨_, rfl, rfl, .inl ⟨⟨_, _, _, rfl, rfl, rfl, rfl⟩, Do.move rfl⟩⟩, .inr ⟨_, rfl, rfl, .inl ⟨⟨_, _, _, rfl, rfl, rfl, rfl⟩, Do.nilCheck rfl⟩⟩, .inr ⟨_, rfl, rfl, .inl ⟨⟨_, _, _, rfl, rfl, rfl, rfl⟩, Do.fieldAddrB tf_fo44_3 rfl rfl⟩⟩, .inr ⟨_, rfl, rfl, .inl ⟨⟨_, _, _, rfl, rfl, rfl, rfl⟩, Do.load tf_flat4 rfl (Cell.own 3 0 rfl rfl rfl)⟩⟩, .inl (by kernel_rfl), .inl (by kernel_rfl), .inl (by kernel_rfl), .inl (by kernel_rfl), .inl (by kernel_rfl), .inl (by kernel_rfl), .inl (by kernel_rfl), .inl (by kernel_rfl), .inl (by kernel_rfl), .inl (by kernel_rfl), .inl (by kernel_rfl), .inl (by kernel_rfl), .inl (by kernel_rfl), .inl (by kernel_rfl), .inl (by kernel_rfl), .inl (by kernel_rfl), .inl (by kernel_rfl), .inl (by kernel_rfl), .inl (by kernel_rfl), .inl (by kernel_rfl), .inl (by kernel_rfl), .inl (by kernel_rfl), .inl (by kernel_rfl), trivial⟩, by kernel_rfl, ?_⟩
        refine At.mono (E' := [(1, .slice A l.length C), (5, .iface 58 (.pointer (some ⟨b1, 0, none⟩))), (6, .pointer (some ⟨b4, 0, none⟩)), (7, .int .i64 (i : Int)), (8, .slice A5 ((l.getD i ((0, ⟨none, 0, []⟩) : Int × Bs)).2.l).length C6), (133, .bool false)]) ⟨rfl, rfl, rfl, rfl, rfl, rfl, trivial⟩ ?_
        refine At.condF rfl ?_
        refine At.skip ?_
        refine At.region ?_
        refine AtL.move (.inl rfl) rfl rfl ?_
        refine AtL.pick (H' := s7 :: [(b1, .cells #[.slice z.A z.l.length z.C, .bool t.h, .bool t.off, .bool t.out, .bool (sentF true t.gr t.sh ((l.getD i ((0, ⟨none, 0, []⟩) : Int × Bs)).2.l)), .bool t.sh] 61 (0, 0))] :: s21 :: s18 :: [(b4, .cells #[.bool true, .slice z2.A z2.l.length z2.C, .bool t.h, .bool t.out, .bool t.off, .bool (sentF true t.gr t.sh ((l.getD i ((0, ⟨none, 0, []⟩) : Int × Bs)).2.l)), .bool t.sh] 44 (0, 0))] :: z.s :: z2.s :: H) [4, 0, 1, 2, 3, 5, 6] 7 rfl rfl ?_
        refine AtL.call tf_body14 (.inl rfl) rfl rfl (over_own o8) ?_
        rintro _ _ ⟨s22, rfl, rfl⟩
        refine AtL.done ?_
        refine At.inBlock ?_
        refine At.region ?_
        refine AtL.move (.inl rfl) rfl rfl ?_
        refine AtL.add (z := (i : Int) + 1) (.inl rfl) rfl rfl rfl (w64 (by omega) (by omega)) ?_
        refine AtL.assign (.inl rfl) rfl rfl ?_
        refine AtL.done ?_
        refine At.pick (H' := z.s :: z2.s :: [(b1, .cells #[.slice z.A z.l.length z.C, .bool t.h, .bool t.off, .bool t.out, .bool (sentF true t.gr t.sh ((l.getD i ((0, ⟨none, 0, []⟩) : Int × Bs)).2.l)), .bool t.sh] 61 (0, 0))] :: [(b4, .cells #[.bool true, .slice z2.A z2.l.length z2.C, .bool t.h, .bool t.out, .bool t.off, .bool (sentF true t.gr t.sh ((l.getD i ((0, ⟨none, 0, []⟩) : Int × Bs)).2.l)), .bool t.sh] 44 (0, 0))] :: H) [5, 6, 1, 4] 7 rfl rfl ?_
        exact ihL1 (i + 1) z z2 (⟨t.h, t.off, t.out, sentF true t.gr t.sh ((l.getD i ((0, ⟨none, 0, []⟩) : Int × Bs)).2.l), t.sh⟩) (⟨by omega, by first | exact hz | rfl, by first | exact hzl | exact pushS_rest hzl⟩) (by omega) _ (by exact ⟨rfl, rfl, rfl, (by first | rfl | exact slLen (by simp []) | exact intEq (by omega) | exact intEq (by simp []) | exact slLen (by simp []; omega)), trivial⟩)
      · intro hc4
        have hc4 : ¬ ((pick ((l.getD i ((0, ⟨none, 0, []⟩) : Int × Bs)).1) 4) = 2) := of_decide_eq_false hc4
        refine At.seq ?_
        refine At.region ?_
        refine AtL.eqi (.inl rfl) rfl rfl rfl ?_
        refine AtL.assign (.inl rfl) rfl rfl ?_
        refine AtL.done ?_
        refine At.cond rfl ?_ ?_
        · intro hc6
          have hc6 : (pick ((l.getD i ((0, ⟨none, 0, []⟩) : Int × Bs)).1) 4) = 3 := of_decide_eq_true hc6
          refine At.seq ?_
          refine At.region ?_
          refine AtL.move (.inl rfl) rfl rfl ?_
          refine AtL.pick (H' := [(b1, .cells #[.slice z.A z.l.length z.C, .bool t.h, .bool t.off, .bool t.out, .bool t.gr, .bool t.sh] 61 (0, 0))] :: s7 :: z.s :: z2.s :: [(b4, .cells #[.bool true, .slice z2.A z2.l.length z2.C, .bool t.h, .bool t.out, .bool t.off, .bool t.gr, .bool t.sh] 44 (0, 0))] :: H) [3, 0, 1, 2, 4] 5 rfl rfl ?_
          refine AtL.callI tf_body50 (.inl rfl) rfl rfl rfl (fun w => by kernel_rfl) close_ok ?_
          rintro _ _ ⟨⟨A23, C24, l25, s26, o27⟩, hx28, rfl, rfl⟩
          obtain rfl : closeF t.gr t.sh = l25 := hx28.symm
          refine AtL.assign (.inl rfl) rfl rfl ?_
          refine AtL.done ?_
          refine At.seq ?_
          refine At.seq ?_
          refine At.region ?_
          refine AtL.move (.inl rfl) rfl rfl ?_
          refine AtL.move (.inl rfl) rfl rfl ?_
          refine AtL.pick (H' := [(b4, .cells #[.bool true, .slice z2.A z2.l.length z2.C, .bool t.h, .bool t.out, .bool t.off, .bool t.gr, .bool t.sh] 44 (0, 0))] :: s26 :: [(b1, .cells #[.slice z.A z.l.length z.C, .bool t.h, .bool t.off, .bool t.out, .bool (closedF true t.gr t.sh), .bool true] 61 (0, 0))] :: s7 :: z.s :: z2.s :: H) [5, 0, 1, 2, 3, 4] 6 rfl rfl ?_
          refine AtL.call tf_body23 (.inl rfl) rfl rfl rclose_ok ?_
          rintro _ _ ⟨⟨A29, C30, l31, s32, o33⟩, hx34, rfl, rfl⟩
          obtain rfl : closeF t.gr t.sh = l31 := hx34.symm
          refine AtL.call tf_body13 (.inl rfl) rfl rfl (same_ok (l := closeF t.gr t.sh) (l2 := closeF t.gr t.sh) (o27.rd (i := 2) rfl) (o33.rd (i := 0) rfl)) ?_
          rintro _ _ ⟨rfl, rfl⟩
          refine AtL.not (.inl rfl) rfl rfl ?_
          refine AtL.done ?_
          refine At.condIs false rfl (congrArg not (decide_eq_true rfl)) ?_
          refine At.skip ?_
          refine At.region ?_
          refine AtL.move (.inl rfl) rfl rfl ?_
          refine AtL.pick (H' := s26 :: s32 :: [(b4, .cells #[.bool true, .slice z2.A z2.l.length z2.C, .bool t.h, .bool t.out, .bool t.off, .bool (closedF true t.gr t.sh), .bool true] 44 (0, 0))] :: [(b1, .cells #[.slice z.A z.l.length z.C, .bool t.h, .bool t.off, .bool t.out, .bool (closedF true t.gr t.sh), .bool true] 61 (0, 0))] :: s7 :: z.s :: z2.s :: H) [2, 0, 1, 3, 4, 5, 6] 7 rfl rfl ?_
          refine AtL.call tf_body14 (.inl rfl) rfl rfl (over_own o27) ?_
          rintro _ _ ⟨s35, rfl, rfl⟩
          refine AtL.done ?_
          refine At.inBlock ?_
          refine At.seq ?_
          refine At.seq ?_
          refine At.draw (es := [10, 20, 29]) (pv := [(0, .slice A5 ((l.getD i ((0, ⟨none, 0, []⟩) : Int × Bs)).2.l).length C6), (1, .slice A l.length C), (2, .int .i64 (i : Int)), (3, .pointer (some (eaddr A (i * tyAct.sz)))), (4, .pointer (some ((eaddr A (i * tyAct.sz)).add 1))), (5, .slice ((l.getD i ((0, ⟨none, 0, []⟩) : Int × Bs)).2.A) ((l.getD i ((0, ⟨none, 0, []⟩) : Int × Bs)).2.l).length ((l.getD i ((0, ⟨none, 0, []⟩) : Int × Bs)).2.C)), (6, .bool true), (7, .bool false), (8, .bool false), (9, .iface 58 (.pointer (some ⟨b1, 0, none⟩))), (11, .pointer (some ⟨b4, 0, none⟩)), (12, .pointer (some ⟨b4, 0, none⟩)), (13, .pointer (some ⟨b4, 1, none⟩)), (14, .slice z2.A z2.l.length z2.C), (15, .int .i64 (z2.l.length : Int))]) tf_mixed (by kernel_rfl) (by kernel_rfl) (by kernel_rfl) ?_
          refine ⟨⟨.inr ⟨_, rfl, rfl, .inl ⟨rfl, Do.move rfl⟩⟩, .inr ⟨_, rfl, rfl, .inl ⟨rfl, Do.move rfl⟩⟩, .inr ⟨_, rfl, rfl, .inl ⟨rfl, Do.move rfl⟩⟩, .inr ⟨_, rfl, rfl, .inl ⟨rfl, Do.indexL i (Rd.skip 7 h) Try.underlying37 tf_sz46 rfl rfl rfl (by omega)⟩⟩, .inr ⟨_, rfl, rfl, .inl ⟨rfl, Do.fieldAddr tf_fo46_1 rfl⟩⟩, .inr ⟨_, rfl, rfl, .inl ⟨rfl, Do.load (v := .slice ((l.getD i ((0, ⟨none, 0, []⟩) : Int × Bs)).2.A) ((l.getD i ((0, ⟨none, 0, []⟩) : Int × Bs)).2.l).length ((l.getD i ((0, ⟨none, 0, []⟩) : Int × Bs)).2.C)) tf_flat22 rfl (Rd.cell_at (Rd.skip 7 h) (j := 1) (getD_some ((0, ⟨none, 0, []⟩) : Int × Bs) (by omega)) rfl)⟩⟩, .inr ⟨_, rfl, rfl, .inl ⟨rfl, Do.asBool (Do.call tf_body13 rfl (same_ok (l := (l.getD i ((0, ⟨none, 0, []⟩) : Int × Bs)).2.l) (l2 := (l.getD i ((0, ⟨none, 0, []⟩) : Int × Bs)).2.l) (o8.rd (i := 4) rfl) (Rd.skip 7 (he _ (getD_mem (l := l) (i := i) (d := ((0, ⟨none, 0, []⟩) : Int × Bs)) (by omega)))))) (decide_eq_true rfl)⟩⟩, .inr ⟨_, rfl, rfl, .inl ⟨rfl, Do.not (b := true) rfl⟩⟩, .inr ⟨_, rfl, rfl, .inl ⟨rfl, Do.move rfl⟩⟩, .inr ⟨_, rfl, rfl, .inl ⟨⟨_, _, _, rfl, rfl, rfl, rfl⟩, Do.move rfl⟩⟩, .inr ⟨_, rfl, rfl, .inl ⟨⟨_, _, _, rfl, rfl, rfl, rfl⟩, Do.move rfl⟩⟩, .inr ⟨_, rfl, rfl, .inl ⟨⟨_, _, _, rfl, rfl, rfl, rfl⟩, Do.nilCheck rfl⟩⟩, .inr ⟨_, rfl, rfl, .inl ⟨⟨_, _, _, rfl, rfl, rfl, rfl⟩, Do.fieldAddrB tf_fo44_1 rfl rfl⟩⟩, .inr ⟨_, rfl, rfl, .inl ⟨⟨_, _, _, rfl, rfl, rfl, rfl⟩, Do.load tf_flat22 rfl (Cell.own 2 0 rfl rfl rfl)⟩⟩, .inr ⟨_, rfl, rfl, .inl ⟨⟨_, _, _, rfl, rfl, rfl, rfl⟩, Do.lenL Try.underlying22 rfl⟩⟩, trivial⟩, rfl, rfl, by kernel_rfl, _, rfl, rfl, ⟨_, _, _, rfl, rfl, rfl, rfl⟩, _, Does.pick (H' := [(b1, .cells #[.slice z.A z.l.length z.C, .bool t.h, .bool t.off, .bool t.out, .bool (closedF true t.gr t.sh), .bool true] 61 (0, 0))] :: s35 :: s32 :: [(b4, .cells #[.bool true, .slice z2.A z2.l.length z2.C, .bool t.h, .bool t.out, .bool t.off, .bool (closedF true t.gr t.sh), .bool true] 44 (0, 0))] :: s7 :: z.s :: z2.s :: H) [3, 0, 1, 2, 4, 5, 6] 7 rfl rfl (Do.callI tf_body52 rfl rfl (fun w => by kernel_rfl) (left_ok (y := z))), ?_⟩
          rintro _ _ ⟨rfl, rfl⟩
          refine ⟨[(16, .bool false), (17, .bool false), (18, .bool false), (19, .iface 58 (.pointer (some ⟨b1, 0, none⟩))), (21, .pointer (some ⟨b4, 0, none⟩)), (22, .pointer (some ⟨b4, 0, none⟩)), (23, .pointer (some ⟨b4, 4, none⟩)), (24, .bool t.off)], rfl, ?_⟩
          refine ⟨⟨.inr ⟨_, rfl, rfl, .inl ⟨⟨_, _, _, rfl, rfl, rfl, rfl⟩, Do.asBool (Do.nei rfl rfl) (by simp [hz])⟩⟩, .inr ⟨_, rfl, rfl, .inl ⟨rfl, Do.pickF rfl rfl⟩⟩, .inr ⟨_, rfl, rfl, .inl ⟨rfl, Do.move rfl⟩⟩, .inr ⟨_, rfl, rfl, .inl ⟨⟨_, _, _, rfl, rfl, rfl, rfl⟩, Do.move rfl⟩⟩, .inr ⟨_, rfl, rfl, .inl ⟨⟨_, _, _, rfl, rfl, rfl, rfl⟩, Do.move rfl⟩⟩, .inr ⟨_, rfl, rfl, .inl ⟨⟨_, _, _, rfl, rfl, rfl, rfl⟩, Do.nilCheck rfl⟩⟩, .inr ⟨_, rfl, rfl, .inl ⟨⟨_, _, _, rfl, rfl, rfl, rfl⟩, Do.fieldAddrB tf_fo44_4 rfl rfl⟩⟩, .inr ⟨_, rfl, rfl, .inl ⟨⟨_, _, _, rfl, rfl, rfl, rfl⟩, Do.load tf_flat4 rfl (Cell.own 3 0 rfl rfl rfl)⟩⟩, .inl (by kernel_rfl), .inl (by kernel_rfl), .inl (by kernel_rfl), .inl (by kernel_rfl), .inl (by kernel_rfl), .inl (by kernel_rfl), .inl (by kernel_rfl), .inl (by kernel_rfl), .inl (by kernel_rfl), .inl (by kernel_rfl), .inr ⟨_, rfl, rfl, .inl ⟨⟨_, _, _, rfl, rfl, rfl, rfl⟩, Do.move rfl⟩⟩, .inr ⟨_, rfl, rfl, .inl ⟨⟨_, _, _, rfl, rfl, rfl, rfl⟩, Do.nilCheck rfl⟩⟩, .inr ⟨_, rfl, rfl, .inl ⟨⟨_, _, _, rfl, rfl, rfl, rfl⟩, Do.fieldAddrB tf_fo44_1 rfl rfl⟩⟩, .inr ⟨_, rfl, rfl, .inl ⟨⟨_, _, _, rfl, rfl, rfl, rfl⟩, Do.load tf_flat22 rfl (Cell.own 3 0 rfl rfl rfl)⟩⟩, .inr ⟨_, rfl, rfl, .inl ⟨⟨_, _, _, rfl, rfl, rfl, rfl⟩, Do.lenL Try.underlying22 rfl⟩⟩, trivial⟩, rfl, rfl, by kernel_rfl, _, rfl, rfl, ⟨_, _, _, rfl, rfl, rfl, rfl⟩, _, Do.callI tf_body51 rfl rfl (fun w => by kernel_rfl) ended_ok, ?_⟩
          rintro _ _ ⟨rfl, rfl⟩
          refine ⟨[(25, .bool false), (26, .bool false), (27, .bool false), (28, .iface 58 (.pointer (some ⟨b1, 0, none⟩))), (30, .pointer (some ⟨b4, 0, none⟩)), (31, .pointer (some ⟨b4, 0, none⟩)), (32, .pointer (some ⟨b4, 3, none⟩)), (33, .bool t.out)], rfl, ?_⟩
          refine ⟨⟨.inr ⟨_, rfl, rfl, .inl ⟨⟨_, _, _, rfl, rfl, rfl, rfl⟩, Do.asBool (Do.neb Try.underlying4 rfl rfl) (by simp [hz])⟩⟩, .inr ⟨_, rfl, rfl, .inl ⟨rfl, Do.pickF rfl rfl⟩⟩, .inr ⟨_, rfl, rfl, .inl ⟨rfl, Do.move rfl⟩⟩, .inr ⟨_, rfl, rfl, .inl ⟨⟨_, _, _, rfl, rfl, rfl, rfl⟩, Do.move rfl⟩⟩, .inr ⟨_, rfl, rfl, .inl ⟨⟨_, _, _, rfl, rfl, rfl, rfl⟩, Do.move rfl⟩⟩, .inr ⟨_, rfl, rfl, .inl ⟨⟨_, _, _, rfl, rfl, rfl, rfl⟩, Do.nilCheck rfl⟩⟩, .inr ⟨_, rfl, rfl, .inl ⟨⟨_, _, _, rfl, rfl, rfl, rfl⟩, Do.fieldAddrB tf_fo44_3 rfl rfl⟩⟩, .inr ⟨_, rfl, rfl, .inl ⟨⟨_, _, _, rfl, rfl, rfl, rfl⟩, Do.load tf_flat4 rfl (Cell.own 3 0 rfl rfl rfl)⟩⟩, .inl (by kernel_rfl), .inl (by kernel_rfl), .inl (by kernel_rfl), .inl (by kernel_rfl), .inr ⟨_, rfl, rfl, .inl ⟨⟨_, _, _, rfl, rfl, rfl, rfl⟩, Do.move rfl⟩⟩, .inr ⟨_, rfl, rfl, .inl ⟨⟨_, _, _, rfl, rfl, rfl, rfl⟩, Do.nilCheck rfl⟩⟩, .inr ⟨_, rfl, rfl, .inl ⟨⟨_, _, _, rfl, rfl, rfl, rfl⟩, Do.fieldAddrB tf_fo44_4 rfl rfl⟩⟩, .inr ⟨_, rfl, rfl, .inl ⟨⟨_, _, _, rfl, rfl, rfl, rfl⟩, Do.load tf_flat4 rfl (Cell.own 3 0 rfl rfl rfl)⟩⟩, .inl (by kernel_rfl), .inl (by kernel_rfl), .inl (by kernel_rfl), .inl (by kernel_rfl), .inl (by kernel_rfl), .inl (by kernel_rfl), .inl (by kernel_rfl), .inl (by kernel_rfl), .inl (by kernel_rfl), .inl (by kernel_rfl), .inl (by kernel_rfl), .inl (by kernel_rfl), .inl (by kernel_rfl), .inl (by kernel_rfl), .inl (by kernel_rfl), trivial⟩, rfl, rfl, by kernel_rfl, _, rfl, rfl, ⟨_, _, _, rfl, rfl, rfl, rfl⟩, _, Do.callI tf_body49 rfl rfl (fun w => by kernel_rfl) broken_ok, ?_⟩
          rintro _ _ ⟨rfl, rfl⟩
          refine ⟨[(34, .bool false), (35, .bool false)], rfl, ?_⟩
          refine ⟨⟨.inr ⟨_, rfl, rfl, .inl ⟨⟨_, _, _, rfl, rfl, rfl, rfl⟩, Do.asBool (Do.neb Try.underlying4 rfl rfl) (by simp [hz])⟩⟩, .inr ⟨_, rfl, rfl, .inl ⟨rfl, Do.pickF rfl rfl⟩⟩, .inl (by kernel_rfl), .inl (by kernel_rfl), .inl (by kernel_rfl), .inl (by kernel_rfl), .inr ⟨_, rfl, rfl, .inl ⟨⟨_, _, _, rfl, rfl, rfl, rfl⟩, Do.move rfl⟩⟩, .inr ⟨_, rfl, rfl, .inl ⟨⟨_, _, _, rfl, rfl, rfl, rfl⟩, Do.nilCheck rfl⟩⟩, .inr ⟨_, rfl, rfl, .inl ⟨⟨_, _, _, rfl, rfl, rfl, rfl⟩, Do.fieldAddrB tf_fo44_3 rfl rfl⟩⟩, .inr ⟨_, rfl, rfl, .inl ⟨⟨_, _, _, rfl, rfl, rfl, rfl⟩, Do.load tf_flat4 rfl (Cell.own 3 0 rfl rfl rfl)⟩⟩, .inl (by kernel_rfl), .inl (by kernel_rfl), .inl (by kernel_rfl), .inl (by kernel_rfl), .inl (by kernel_rfl), .inl (by kernel_rfl), .inl (by kernel_rfl), .inl (by kernel_rfl), .inl (by kernel_rfl), .inl (by kernel_rfl), .inl (by kernel_rfl), .inl (by kernel_rfl), .inl (by kernel_rfl), .inl (by kernel_rfl), .inl (by kernel_rfl), .inl (by kernel_rfl), .inl (by kernel_rfl), .inl (by kernel_rfl), .inl (by kernel_rfl), .inl (by kernel_rfl), .inl (by kernel_rfl), .inl (by kernel_rfl), .inl (by kernel_rfl), trivial⟩, by kernel_rfl, ?_⟩
          refine At.mono (E' := [(1, .slice A l.length C), (5, .iface 58 (.pointer (some ⟨b1, 0, none⟩))), (6, .pointer (some ⟨b4, 0, none⟩)), (7, .int .i64 (i : Int)), (8, .slice A5 ((l.getD i ((0, ⟨none, 0, []⟩) : Int × Bs)).2.l).length C6), (133, .bool false)]) ⟨rfl, rfl, rfl, rfl, rfl, rfl, trivial⟩ ?_
          refine At.condF rfl ?_
          refine At.skip ?_
          refine At.region ?_
          refine AtL.move (.inl rfl) rfl rfl ?_
          refine AtL.pick (H' := s7 :: [(b1, .cells #[.slice z.A z.l.length z.C, .bool t.h, .bool t.off, .bool t.out, .bool (closedF true t.gr t.sh), .bool true] 61 (0, 0))] :: s35 :: s32 :: [(b4, .cells #[.bool true, .slice z2.A z2.l.length z2.C, .bool t.h, .bool t.out, .bool t.off, .bool (closedF true t.gr t.sh), .bool true] 44 (0, 0))] :: z.s :: z2.s :: H) [4, 0, 1, 2, 3, 5, 6] 7 rfl rfl ?_
          refine AtL.call tf_body14 (.inl rfl) rfl rfl (over_own o8) ?_
          rintro _ _ ⟨s36, rfl, rfl⟩
          refine AtL.done ?_
          refine At.inBlock ?_
          refine At.region ?_
          refine AtL.move (.inl rfl) rfl rfl ?_
          refine AtL.add (z := (i : Int) + 1) (.inl rfl) rfl rfl rfl (w64 (by omega) (by omega)) ?_
          refine AtL.assign (.inl rfl) rfl rfl ?_
          refine AtL.done ?_
          refine At.pick (H' := z.s :: z2.s :: [(b1, .cells #[.slice z.A z.l.length z.C, .bool t.h, .bool t.off, .bool t.out, .bool (closedF true t.gr t.sh), .bool true] 61 (0, 0))] :: [(b4, .cells #[.bool true, .slice z2.A z2.l.length z2.C, .bool t.h, .bool t.out, .bool t.off, .bool (closedF true t.gr t.sh), .bool true] 44 (0, 0))] :: H) [5, 6, 1, 4] 7 rfl rfl ?_
          exact ihL1 (i + 1) z z2 (⟨t.h, t.off, t.out, closedF true t.gr t.sh, true⟩) (⟨by omega, by first | exact hz | rfl, by first | exact hzl | exact pushS_rest hzl⟩) (by omega) _ (by exact ⟨rfl, rfl, rfl, (by first | rfl | exact slLen (by simp []) | exact intEq (by omega) | exact intEq (by simp []) | exact slLen (by simp []; omega)), trivial⟩)
        · intro hc6
          have hc6 : ¬ ((pick ((l.getD i ((0, ⟨none, 0, []⟩) : Int × Bs)).1) 4) = 3) := of_decide_eq_false hc6
          refine At.seq ?_
          refine At.region ?_
          refine AtL.move (.inl rfl) rfl rfl ?_
          refine AtL.move (.inl rfl) rfl rfl ?_
          refine AtL.pick (H' := z.s :: [(b1, .cells #[.slice z.A z.l.length z.C, .bool t.h, .bool t.off, .bool t.out, .bool t.gr, .bool t.sh] 61 (0, 0))] :: s7 :: z2.s :: [(b4, .cells #[.bool true, .slice z2.A z2.l.length z2.C, .bool t.h, .bool t.out, .bool t.off, .bool t.gr, .bool t.sh] 44 (0, 0))] :: H) [1, 3, 0, 2, 4] 5 rfl rfl ?_
          refine AtL.callI tf_body53 (.inl rfl) rfl rfl rfl (fun w => by kernel_rfl) (push_ok (y := z) (l := (l.getD i ((0, ⟨none, 0, []⟩) : Int × Bs)).2.l) (o8.rd (i := 0) rfl) (by first | omega | (simp only [List.length_append, List.length_cons, List.length_nil]; omega) | (simp; done) | (simp; omega))) ?_
          rintro _ _ ⟨⟨A37, C38, l39, s40, o41⟩, ⟨A43, C44, l45, s46, o47⟩, hx42, hx48, rfl, rfl⟩
          obtain rfl : (pushS t.h t.off t.out z.l ((l.getD i ((0, ⟨none, 0, []⟩) : Int × Bs)).2.l)).out = l39 := hx42.symm
          obtain rfl : (pushS t.h t.off t.out z.l ((l.getD i ((0, ⟨none, 0, []⟩) : Int × Bs)).2.l)).rest = l45 := hx48.symm
          refine AtL.move (.inl rfl) rfl rfl ?_
          refine AtL.extract (.inl rfl) rfl rfl rfl ?_
          refine AtL.extract (.inl rfl) rfl rfl rfl ?_
          refine AtL.assign (.inl rfl) rfl rfl ?_
          refine AtL.assign (.inl rfl) rfl rfl ?_
          refine AtL.done ?_
          refine At.seq ?_
          refine At.region ?_
          refine AtL.move (.inl rfl) rfl rfl ?_
          refine AtL.move (.inl rfl) rfl rfl ?_
          refine AtL.move (.inl rfl) rfl rfl ?_
          refine AtL.indexL i (Rd.skip 6 h) Try.underlying37 tf_sz46 (.inl rfl) rfl rfl rfl rfl (by omega) ?_
          refine AtL.fieldAddr tf_fo46_1 (.inl rfl) rfl rfl ?_
          refine AtL.load (v := .slice ((l.getD i ((0, ⟨none, 0, []⟩) : Int × Bs)).2.A) ((l.getD i ((0, ⟨none, 0, []⟩) : Int × Bs)).2.l).length ((l.getD i ((0, ⟨none, 0, []⟩) : Int × Bs)).2.C)) tf_flat22 (.inl rfl) rfl rfl (Rd.cell_at (Rd.skip 6 h) (j := 1) (getD_some ((0, ⟨none, 0, []⟩) : Int × Bs) (by omega)) rfl) ?_
          refine AtL.pick (H' := z2.s :: [(b4, .cells #[.bool true, .slice z2.A z2.l.length z2.C, .bool t.h, .bool t.out, .bool t.off, .bool t.gr, .bool t.sh] 44 (0, 0))] :: s40 :: s46 :: [(b1, .cells #[.slice A43 ((pushS t.h t.off t.out z.l ((l.getD i ((0, ⟨none, 0, []⟩) : Int × Bs)).2.l)).rest).length C44, .bool ((pushS t.h t.off t.out z.l ((l.getD i ((0, ⟨none, 0, []⟩) : Int × Bs)).2.l)).h), .bool ((pushS t.h t.off t.out z.l ((l.getD i ((0, ⟨none, 0, []⟩) : Int × Bs)).2.l)).off), .bool (brokeS t.h t.off t.out z.l ((l.getD i ((0, ⟨none, 0, []⟩) : Int × Bs)).2.l)), .bool t.gr, .bool t.sh] 61 (0, 0))] :: s7 :: H) [4, 5, 0, 1, 2, 3] 6 rfl rfl ?_
          refine AtL.call tf_body24 (.inl rfl) rfl rfl (rpush_ok (y := z2) (l := (l.getD i ((0, ⟨none, 0, []⟩) : Int × Bs)).2.l) (Rd.skip 4 (he _ (getD_mem (l := l) (i := i) (d := ((0, ⟨none, 0, []⟩) : Int × Bs)) (by omega)))) (by first | omega | (simp only [List.length_append, List.length_cons, List.length_nil]; omega) | (simp; done) | (simp; omega))) ?_
          rintro _ _ ⟨⟨A49, C50, l51, s52, o53⟩, ⟨A55, C56, l57, s58, o59⟩, hx54, hx60, rfl, rfl⟩
          obtain rfl : (pushS t.h t.off t.out z2.l ((l.getD i ((0, ⟨none, 0, []⟩) : Int × Bs)).2.l)).out = l51 := hx54.symm
          obtain rfl : (pushS t.h t.off t.out z2.l ((l.getD i ((0, ⟨none, 0, []⟩) : Int × Bs)).2.l)).rest = l57 := hx60.symm
          refine AtL.move (.inl rfl) rfl rfl ?_
          refine AtL.extract (.inl rfl) rfl rfl rfl ?_
          refine AtL.extract (.inl rfl) rfl rfl rfl ?_
          refine AtL.assign (.inl rfl) rfl rfl ?_
          refine AtL.assign (.inl rfl) rfl rfl ?_
          refine AtL.done ?_
          refine At.seq ?_
          refine At.seq ?_
          refine At.region ?_
          refine AtL.move (.inl rfl) rfl rfl ?_
          refine AtL.move (.inl rfl) rfl rfl ?_
          refine AtL.nei (.inl rfl) rfl rfl rfl ?_
          refine AtL.move (.inl rfl) rfl rfl ?_
          refine AtL.split (t := 62) rfl ?_ ?_
          · intro hs62
            have hs62 : ¬ (((pushS t.h t.off t.out z.l ((l.getD i ((0, ⟨none, 0, []⟩) : Int × Bs)).2.l)).e) = ((pushS t.h t.off t.out z2.l ((l.getD i ((0, ⟨none, 0, []⟩) : Int × Bs)).2.l)).e)) := of_decide_eq_false (bnot_true hs62)
            exfalso; revert hs62; simp [hz]
          · intro hs62
            have hs62 : ((pushS t.h t.off t.out z.l ((l.getD i ((0, ⟨none, 0, []⟩) : Int × Bs)).2.l)).e) = ((pushS t.h t.off t.out z2.l ((l.getD i ((0, ⟨none, 0, []⟩) : Int × Bs)).2.l)).e) := of_decide_eq_true (bnot_false hs62)
            refine AtL.move (.inr ⟨_, _, _, rfl, rfl, rfl, rfl⟩) rfl rfl ?_
            refine AtL.move (.inr ⟨_, _, _, rfl, rfl, rfl, rfl⟩) rfl rfl ?_
            refine AtL.call tf_body13 (.inr ⟨_, _, _, rfl, rfl, rfl, rfl⟩) rfl rfl (same_ok (l := (pushS t.h t.off t.out z.l ((l.getD i ((0, ⟨none, 0, []⟩) : Int × Bs)).2.l)).out) (l2 := (pushS t.h t.off t.out z2.l ((l.getD i ((0, ⟨none, 0, []⟩) : Int × Bs)).2.l)).out) (o41.rd (i := 3) rfl) (o53.rd (i := 0) rfl)) ?_
            rintro _ _ ⟨rfl, rfl⟩
            refine AtL.not (.inr ⟨_, _, _, rfl, rfl, rfl, rfl⟩) rfl rfl ?_
            refine AtL.pickF (.inl rfl) rfl rfl rfl ?_
            refine AtL.done ?_
            refine At.condIs false rfl (by simp [hz]) ?_
            refine At.skip ?_
            refine At.region ?_
            refine AtL.move (.inl rfl) rfl rfl ?_
            refine AtL.pick (H' := s40 :: s52 :: s58 :: [(b4, .cells #[.bool true, .slice A55 ((pushS t.h t.off t.out z2.l ((l.getD i ((0, ⟨none, 0, []⟩) : Int × Bs)).2.l)).rest).length C56, .bool ((pushS t.h t.off t.out z2.l ((l.getD i ((0, ⟨none, 0, []⟩) : Int × Bs)).2.l)).h), .bool (brokeS t.h t.off t.out z2.l ((l.getD i ((0, ⟨none, 0, []⟩) : Int × Bs)).2.l)), .bool ((pushS t.h t.off t.out z2.l ((l.getD i ((0, ⟨none, 0, []⟩) : Int × Bs)).2.l)).off), .bool t.gr, .bool t.sh] 44 (0, 0))] :: s46 :: [(b1, .cells #[.slice A43 ((pushS t.h t.off t.out z.l ((l.getD i ((0, ⟨none, 0, []⟩) : Int × Bs)).2.l)).rest).length C44, .bool ((pushS t.h t.off t.out z.l ((l.getD i ((0, ⟨none, 0, []⟩) : Int × Bs)).2.l)).h), .bool ((pushS t.h t.off t.out z.l ((l.getD i ((0, ⟨none, 0, []⟩) : Int × Bs)).2.l)).off), .bool (brokeS t.h t.off t.out z.l ((l.getD i ((0, ⟨none, 0, []⟩) : Int × Bs)).2.l)), .bool t.gr, .bool t.sh] 61 (0, 0))] :: s7 :: H) [3, 0, 1, 2, 4, 5, 6] 7 rfl rfl ?_
            refine AtL.call tf_body14 (.inl rfl) rfl rfl (over_own o41) ?_
            rintro _ _ ⟨s61, rfl, rfl⟩
            refine AtL.done ?_
            refine At.inBlock ?_
            refine At.seq ?_
            refine At.seq ?_
            refine At.draw (es := [10, 20, 29]) (pv := [(0, .slice A5 ((l.getD i ((0, ⟨none, 0, []⟩) : Int × Bs)).2.l).length C6), (1, .slice A l.length C), (2, .int .i64 (i : Int)), (3, .pointer (some (eaddr A (i * tyAct.sz)))), (4, .pointer (some ((eaddr A (i * tyAct.sz)).add 1))), (5, .slice ((l.getD i ((0, ⟨none, 0, []⟩) : Int × Bs)).2.A) ((l.getD i ((0, ⟨none, 0, []⟩) : Int × Bs)).2.l).length ((l.getD i ((0, ⟨none, 0, []⟩) : Int × Bs)).2.C)), (6, .bool true), (7, .bool false), (8, .bool false), (9, .iface 58 (.pointer (some ⟨b1, 0, none⟩))), (11, .pointer (some ⟨b4, 0, none⟩)), (12, .pointer (some ⟨b4, 0, none⟩)), (13, .pointer (some ⟨b4, 1, none⟩)), (14, .slice A55 ((pushS t.h t.off t.out z2.l ((l.getD i ((0, ⟨none, 0, []⟩) : Int × Bs)).2.l)).rest).length C56), (15, .int .i64 (((pushS t.h t.off t.out z2.l ((l.getD i ((0, ⟨none, 0, []⟩) : Int × Bs)).2.l)).rest).length : Int))]) tf_mixed (by kernel_rfl) (by kernel_rfl) (by kernel_rfl) ?_
            refine ⟨⟨.inr ⟨_, rfl, rfl, .inl ⟨rfl, Do.move rfl⟩⟩, .inr ⟨_, rfl, rfl, .inl ⟨rfl, Do.move rfl⟩⟩, .inr ⟨_, rfl, rfl, .inl ⟨rfl, Do.move rfl⟩⟩, .inr ⟨_, rfl, rfl, .inl ⟨rfl, Do.indexL i (Rd.skip 7 h) Try.underlying37 tf_sz46 rfl rfl rfl (by omega)⟩⟩, .inr ⟨_, rfl, rfl, .inl ⟨rfl, Do.fieldAddr tf_fo46_1 rfl⟩⟩, .inr ⟨_, rfl, rfl, .inl ⟨rfl, Do.load (v := .slice ((l.getD i ((0, ⟨none, 0, []⟩) : Int × Bs)).2.A) ((l.getD i ((0, ⟨none, 0, []⟩) : Int × Bs)).2.l).length ((l.getD i ((0, ⟨none, 0, []⟩) : Int × Bs)).2.C)) tf_flat22 rfl (Rd.cell_at (Rd.skip 7 h) (j := 1) (getD_some ((0, ⟨none, 0, []⟩) : Int × Bs) (by omega)) rfl)⟩⟩, .inr ⟨_, rfl, rfl, .inl ⟨rfl, Do.asBool (Do.call tf_body13 rfl (same_ok (l := (l.getD i ((0, ⟨none, 0, []⟩) : Int × Bs)).2.l) (l2 := (l.getD i ((0, ⟨none, 0, []⟩) : Int × Bs)).2.l) (o8.rd (i := 6) rfl) (Rd.skip 7 (he _ (getD_mem (l := l) (i := i) (d := ((0, ⟨none, 0, []⟩) : Int × Bs)) (by omega)))))) (decide_eq_true rfl)⟩⟩, .inr ⟨_, rfl, rfl, .inl ⟨rfl, Do.not (b := true) rfl⟩⟩, .inr ⟨_, rfl, rfl, .inl ⟨rfl, Do.move rfl⟩⟩, .inr ⟨_, rfl, rfl, .inl ⟨⟨_, _, _, rfl, rfl, rfl, rfl⟩, Do.move rfl⟩⟩, .inr ⟨_, rfl, rfl, .inl ⟨⟨_, _, _, rfl, rfl, rfl, rfl⟩, Do.move rfl⟩⟩, .inr ⟨_, rfl, rfl, .inl ⟨⟨_, _, _, rfl, rfl, rfl, rfl⟩, Do.nilCheck rfl⟩⟩, .inr ⟨_, rfl, rfl, .inl ⟨⟨_, _, _, rfl, rfl, rfl, rfl⟩, Do.fieldAddrB tf_fo44_1 rfl rfl⟩⟩, .inr ⟨_, rfl, rfl, .inl ⟨⟨_, _, _, rfl, rfl, rfl, rfl⟩, Do.load tf_flat22 rfl (Cell.own 3 0 rfl rfl rfl)⟩⟩, .inr ⟨_, rfl, rfl, .inl ⟨⟨_, _, _, rfl, rfl, rfl, rfl⟩, Do.lenL Try.underlying22 rfl⟩⟩, trivial⟩, rfl, rfl, by kernel_rfl, _, rfl, rfl, ⟨_, _, _, rfl, rfl, rfl, rfl⟩, _, Does.pick (H' := [(b1, .cells #[.slice A43 ((pushS t.h t.off t.out z.l ((l.getD i ((0, ⟨none, 0, []⟩) : Int × Bs)).2.l)).rest).length C44, .bool ((pushS t.h t.off t.out z.l ((l.getD i ((0, ⟨none, 0, []⟩) : Int × Bs)).2.l)).h), .bool ((pushS t.h t.off t.out z.l ((l.getD i ((0, ⟨none, 0, []⟩) : Int × Bs)).2.l)).off), .bool (brokeS t.h t.off t.out z.l ((l.getD i ((0, ⟨none, 0, []⟩) : Int × Bs)).2.l)), .bool t.gr, .bool t.sh] 61 (0, 0))] :: s61 :: s52 :: s58 :: [(b4, .cells #[.bool true, .slice A55 ((pushS t.h t.off t.out z2.l ((l.getD i ((0, ⟨none, 0, []⟩) : Int × Bs)).2.l)).rest).length C56, .bool ((pushS t.h t.off t.out z2.l ((l.getD i ((0, ⟨none, 0, []⟩) : Int × Bs)).2.l)).h), .bool (brokeS t.h t.off t.out z2.l ((l.getD i ((0, ⟨none, 0, []⟩) : Int × Bs)).2.l)), .bool ((pushS t.h t.off t.out z2.l ((l.getD i ((0, ⟨none, 0, []⟩) : Int × Bs)).2.l)).off), .bool t.gr, .bool t.sh] 44 (0, 0))] :: s46 :: s7 :: H) [5, 0, 1, 2, 3, 4, 6] 7 rfl rfl (Do.callI tf_body52 rfl rfl (fun w => by kernel_rfl) (left_ok (y := ⟨A43, C44, (pushS t.h t.off t.out z.l ((l.getD i ((0, ⟨none, 0, []⟩) : Int × Bs)).2.l)).rest, s46, o47⟩))), ?_⟩
            rintro _ _ ⟨rfl, rfl⟩
            refine ⟨[(16, .bool false), (17, .bool false), (18, .bool false), (19, .iface 58 (.pointer (some ⟨b1, 0, none⟩))), (21, .pointer (some ⟨b4, 0, none⟩)), (22, .pointer (some ⟨b4, 0, none⟩)), (23, .pointer (some ⟨b4, 4, none⟩)), (24, .bool ((pushS t.h t.off t.out z2.l ((l.getD i ((0, ⟨none, 0, []⟩) : Int × Bs)).2.l)).off))], rfl, ?_⟩
            refine ⟨⟨.inr ⟨_, rfl, rfl, .inl ⟨⟨_, _, _, rfl, rfl, rfl, rfl⟩, Do.asBool (Do.nei rfl rfl) (by simp [hz])⟩⟩, .inr ⟨_, rfl, rfl, .inl ⟨rfl, Do.pickF rfl rfl⟩⟩, .inr ⟨_, rfl, rfl, .inl ⟨rfl, Do.move rfl⟩⟩, .inr ⟨_, rfl, rfl, .inl ⟨⟨_, _, _, rfl, rfl, rfl, rfl⟩, Do.move rfl⟩⟩, .inr ⟨_, rfl, rfl, .inl ⟨⟨_, _, _, rfl, rfl, rfl, rfl⟩, Do.move rfl⟩⟩, .inr ⟨_, rfl, rfl, .inl ⟨⟨_, _, _, rfl, rfl, rfl, rfl⟩, Do.nilCheck rfl⟩⟩, .inr ⟨_, rfl, rfl, .inl ⟨⟨_, _, _, rfl, rfl, rfl, rfl⟩, Do.fieldAddrB tf_fo44_4 rfl rfl⟩⟩, .inr ⟨_, rfl, rfl, .inl ⟨⟨_, _, _, rfl, rfl, rfl, rfl⟩, Do.load tf_flat4 rfl (Cell.own 4 0 rfl rfl rfl)⟩⟩, .inl (by kernel_rfl), .inl (by kernel_rfl), .inl (by kernel_rfl), .inl (by kernel_rfl), .inl (by kernel_rfl), .inl (by kernel_rfl), .inl (by kernel_rfl), .inl (by kernel_rfl), .inl (by kernel_rfl), .inl (by kernel_rfl), .inr ⟨_, rfl, rfl, .inl ⟨⟨_, _, _, rfl, rfl, rfl, rfl⟩, Do.move rfl⟩⟩, .inr ⟨_, rfl, rfl, .inl ⟨⟨_, _, _, rfl, rfl, rfl, rfl⟩, Do.nilCheck rfl⟩⟩, .inr ⟨_, rfl, rfl, .inl ⟨⟨_, _, _, rfl, rfl, rfl, rfl⟩, Do.fieldAddrB tf_fo44_1 rfl rfl⟩⟩, .inr ⟨_, rfl, rfl, .inl ⟨⟨_, _, _, rfl, rfl, rfl, rfl⟩, Do.load tf_flat22 rfl (Cell.own 4 0 rfl rfl rfl)⟩⟩, .inr ⟨_, rfl, rfl, .inl ⟨⟨_, _, _, rfl, rfl, rfl, rfl⟩, Do.lenL Try.underlying22 rfl⟩⟩, trivial⟩, rfl, rfl, by kernel_rfl, _, rfl, rfl, ⟨_, _, _, rfl, rfl, rfl, rfl⟩, _, Do.callI tf_body51 rfl rfl (fun w => by kernel_rfl) ended_ok, ?_⟩
            rintro _ _ ⟨rfl, rfl⟩
            refine ⟨[(25, .bool false), (26, .bool false), (27, .bool false), (28, .iface 58 (.pointer (some ⟨b1, 0, none⟩))), (30, .pointer (some ⟨b4, 0, none⟩)), (31, .pointer (some ⟨b4, 0, none⟩)), (32, .pointer (some ⟨b4, 3, none⟩)), (33, .bool (brokeS t.h t.off t.out z2.l ((l.getD i ((0, ⟨none, 0, []⟩) : Int × Bs)).2.l)))], rfl, ?_⟩
            refine ⟨⟨.inr ⟨_, rfl, rfl, .inl ⟨⟨_, _, _, rfl, rfl, rfl, rfl⟩, Do.asBool (Do.neb Try.underlying4 rfl rfl) (by simp [hz])⟩⟩, .inr ⟨_, rfl, rfl, .inl ⟨rfl, Do.pickF rfl rfl⟩⟩, .inr ⟨_, rfl, rfl, .inl ⟨rfl, Do.move rfl⟩⟩, .inr ⟨_, rfl, rfl, .inl ⟨⟨_, _, _, rfl, rfl, rfl, rfl⟩, Do.move rfl⟩⟩, .inr ⟨_, rfl, rfl, .inl ⟨⟨_, _, _, rfl, rfl, rfl, rfl⟩, Do.move rfl⟩⟩, .inr ⟨_, rfl, rfl, .inl ⟨⟨_, _, _, rfl, rfl, rfl, rfl⟩, Do.nilCheck rfl⟩⟩, .inr ⟨_, rfl, rfl, .inl ⟨⟨_, _, _, rfl, rfl, rfl, rfl⟩, Do.fieldAddrB tf_fo44_3 rfl rfl⟩⟩, .inr ⟨_, rfl, rfl, .inl ⟨⟨_, _, _, rfl, rfl, rfl, rfl⟩, Do.load tf_flat4 rfl (Cell.own 4 0 rfl rfl rfl)⟩⟩, .inl (by kernel_rfl), .inl (by kernel_rfl), .inl (by kernel_rfl), .inl (by kernel_rfl), .inr ⟨_, rfl, rfl, .inl ⟨⟨_, _, _, rfl, rfl, rfl, rfl⟩, Do.move rfl⟩⟩, .inr ⟨_, rfl, rfl, .inl ⟨⟨_, _, _, rfl, rfl, rfl, rfl⟩, Do.nilCheck rfl⟩⟩, .inr ⟨_, rfl, rfl, .inl ⟨⟨_, _, _, rfl, rfl, rfl, rfl⟩, Do.fieldAddrB tf_fo44_4 rfl rfl⟩⟩, .inr ⟨_, rfl, rfl, .inl ⟨⟨_, _, _, rfl, rfl, rfl, rfl⟩, Do.load tf_flat4 rfl (Cell.own 4 0 rfl rfl rfl)⟩⟩, .inl (by kernel_rfl), .inl (by kernel_rfl), .inl (by kernel_rfl), .inl (by kernel_rfl), .inl (by kernel_rfl), .inl (by kernel_rfl), .inl (by kernel_rfl), .inl (by kernel_rfl), .inl (by kernel_rfl), .inl (by kernel_rfl), .inl (by kernel_rfl), .inl (by kernel_rfl), .inl (by kernel_rfl), .inl (by kernel_rfl), .inl (by kernel_rfl), trivial⟩, rfl, rfl, by kernel_rfl, _, rfl, rfl, ⟨_, _, _, rfl, rfl, rfl, rfl⟩, _, Do.callI tf_body49 rfl rfl (fun w => by kernel_rfl) broken_ok, ?_⟩
            rintro _ _ ⟨rfl, rfl⟩
            refine ⟨[(34, .bool false), (35, .bool false)], rfl, ?_⟩
            refine ⟨⟨.inr ⟨_, rfl, rfl, .inl ⟨⟨_, _, _, rfl, rfl, rfl, rfl⟩, Do.asBool (Do.neb Try.underlying4 rfl rfl) (by simp [hz])⟩⟩, .inr ⟨_, rfl, rfl, .inl ⟨rfl, Do.pickF rfl rfl⟩⟩, .inl (by kernel_rfl), .inl (by kernel_rfl), .inl (by kernel_rfl), .inl (by kernel_rfl), .inr ⟨_, rfl, rfl, .inl ⟨⟨_, _, _, rfl, rfl, rfl, rfl⟩, Do.move rfl⟩⟩, .inr ⟨_, rfl, rfl, .inl ⟨⟨_, _, _, rfl, rfl, rfl, rfl⟩, Do.nilCheck rfl⟩⟩, .inr ⟨_, rfl, rfl, .inl ⟨⟨_, _, _, rfl, rfl, rfl, rfl⟩, Do.fieldAddrB tf_fo44_3 rfl rfl⟩⟩, .inr ⟨_, rfl, rfl, .inl ⟨⟨_, _, _, rfl, rfl, rfl, rfl⟩, Do.load tf_flat4 rfl (Cell.own 4 0 rfl rfl rfl)⟩⟩, .inl (by kernel_rfl), .inl (by kernel_rfl), .inl (by kernel_rfl), .inl (by kernel_rfl), .inl (by kernel_rfl), .inl (by kernel_rfl), .inl (by kernel_rfl), .inl (by kernel_rfl), .inl (by kernel_rfl), .inl (by kernel_rfl), .inl (by kernel_rfl), .inl (by kernel_rfl), .inl (by kernel_rfl), .inl (by kernel_rfl), .inl (by kernel_rfl), .inl (by kernel_rfl), .inl (by kernel_rfl), .inl (by kernel_rfl), .inl (by kernel_rfl), .inl (by kernel_rfl), .inl (by kernel_rfl), .inl (by kernel_rfl), .inl (by kernel_rfl), trivial⟩, by kernel_rfl, ?_⟩
            refine At.mono (E' := [(1, .slice A l.length C), (5, .iface 58 (.pointer (some ⟨b1, 0, none⟩))), (6, .pointer (some ⟨b4, 0, none⟩)), (7, .int .i64 (i : Int)), (8, .slice A5 ((l.getD i ((0, ⟨none, 0, []⟩) : Int × Bs)).2.l).length C6), (133, .bool false)]) ⟨rfl, rfl, rfl, rfl, rfl, rfl, trivial⟩ ?_
            refine At.condF rfl ?_
            refine At.skip ?_
            refine At.region ?_
            refine AtL.move (.inl rfl) rfl rfl ?_
            refine AtL.pick (H' := s7 :: [(b1, .cells #[.slice A43 ((pushS t.h t.off t.out z.l ((l.getD i ((0, ⟨none, 0, []⟩) : Int × Bs)).2.l)).rest).length C44, .bool ((pushS t.h t.off t.out z.l ((l.getD i ((0, ⟨none, 0, []⟩) : Int × Bs)).2.l)).h), .bool ((pushS t.h t.off t.out z.l ((l.getD i ((0, ⟨none, 0, []⟩) : Int × Bs)).2.l)).off), .bool (brokeS t.h t.off t.out z.l ((l.getD i ((0, ⟨none, 0, []⟩) : Int × Bs)).2.l)), .bool t.gr, .bool t.sh] 61 (0, 0))] :: s61 :: s52 :: s58 :: [(b4, .cells #[.bool true, .slice A55 ((pushS t.h t.off t.out z2.l ((l.getD i ((0, ⟨none, 0, []⟩) : Int × Bs)).2.l)).rest).length C56, .bool ((pushS t.h t.off t.out z2.l ((l.getD i ((0, ⟨none, 0, []⟩) : Int × Bs)).2.l)).h), .bool (brokeS t.h t.off t.out z2.l ((l.getD i ((0, ⟨none, 0, []⟩) : Int × Bs)).2.l)), .bool ((pushS t.h t.off t.out z2.l ((l.getD i ((0, ⟨none, 0, []⟩) : Int × Bs)).2.l)).off), .bool t.gr, .bool t.sh] 44 (0, 0))] :: s46 :: H) [6, 0, 1, 2, 3, 4, 5] 7 rfl rfl ?_
            refine AtL.call tf_body14 (.inl rfl) rfl rfl (over_own o8) ?_
            rintro _ _ ⟨s62, rfl, rfl⟩
            refine AtL.done ?_
            refine At.inBlock ?_
            refine At.region ?_
            refine AtL.move (.inl rfl) rfl rfl ?_
            refine AtL.add (z := (i : Int) + 1) (.inl rfl) rfl rfl rfl (w64 (by omega) (by omega)) ?_
            refine AtL.assign (.inl rfl) rfl rfl ?_
            refine AtL.done ?_
            rw [hz] at o59 ⊢
            refine At.pick (H' := s46 :: s58 :: [(b1, .cells #[.slice A43 ((pushS t.h t.off t.out z.l ((l.getD i ((0, ⟨none, 0, []⟩) : Int × Bs)).2.l)).rest).length C44, .bool ((pushS t.h t.off t.out z.l ((l.getD i ((0, ⟨none, 0, []⟩) : Int × Bs)).2.l)).h), .bool ((pushS t.h t.off t.out z.l ((l.getD i ((0, ⟨none, 0, []⟩) : Int × Bs)).2.l)).off), .bool (brokeS t.h t.off t.out z.l ((l.getD i ((0, ⟨none, 0, []⟩) : Int × Bs)).2.l)), .bool t.gr, .bool t.sh] 61 (0, 0))] :: [(b4, .cells #[.bool true, .slice A55 ((pushS t.h t.off t.out z.l ((l.getD i ((0, ⟨none, 0, []⟩) : Int × Bs)).2.l)).rest).length C56, .bool ((pushS t.h t.off t.out z.l ((l.getD i ((0, ⟨none, 0, []⟩) : Int × Bs)).2.l)).h), .bool (brokeS t.h t.off t.out z.l ((l.getD i ((0, ⟨none, 0, []⟩) : Int × Bs)).2.l)), .bool ((pushS t.h t.off t.out z.l ((l.getD i ((0, ⟨none, 0, []⟩) : Int × Bs)).2.l)).off), .bool t.gr, .bool t.sh] 44 (0, 0))] :: H) [6, 4, 1, 5] 7 rfl rfl ?_
            exact ihL1 (i + 1) (⟨A43, C44, (pushS t.h t.off t.out z.l ((l.getD i ((0, ⟨none, 0, []⟩) : Int × Bs)).2.l)).rest, s46, o47⟩) (⟨A55, C56, (pushS t.h t.off t.out z.l ((l.getD i ((0, ⟨none, 0, []⟩) : Int × Bs)).2.l)).rest, s58, o59⟩) (⟨(pushS t.h t.off t.out z.l ((l.getD i ((0, ⟨none, 0, []⟩) : Int × Bs)).2.l)).h, (pushS t.h t.off t.out z.l ((l.getD i ((0, ⟨none, 0, []⟩) : Int × Bs)).2.l)).off, brokeS t.h t.off t.out z.l ((l.getD i ((0, ⟨none, 0, []⟩) : Int × Bs)).2.l), t.gr, t.sh⟩) (⟨by omega, by first | exact hz | rfl, by first | exact hzl | exact pushS_rest hzl⟩) (by omega) _ (by exact ⟨rfl, rfl, rfl, (by first | rfl | exact slLen (by simp []) | exact intEq (by omega) | exact intEq (by simp []) | exact slLen (by simp []; omega)), trivial⟩)
    · intro hc3
      have hc3 : ¬ ((i : Int) < (l.length : Int)) := of_decide_eq_false hc3
      refine At.exit rfl ?_
      refine At.seq ?_
      refine At.region ?_
      refine AtL.call tf_body9 (.inl rfl) rfl rfl awake_ok ?_
      rintro _ _ ⟨rfl, rfl⟩
      refine AtL.assign (.inl rfl) rfl rfl ?_
      refine AtL.done ?_
      refine At.pick (H' := H) [] 4 rfl rfl ?_
      exact At.ret Try.func5 rfl rfl (⟨rfl, rfl⟩)

set_option maxHeartbeats 2000000 in
theorem script_f {w0 : World} {base : Nat} {H : List Seg} {A : Option Addr} {C : Nat} {l : List (Int × Bs)} (h : Rd tyAct w0 base H A C l) (he : ∀ x ∈ l, Rd tyB w0 base H x.2.A x.2.C x.2.l) (hb : ∀ x ∈ l, x.2.l.length ≤ 140737488351232) (hl : l.length ≤ 140737488351232) :
    SCalls Try.prog 5 [.bool false, .slice A l.length C] w0 base (H) (fun v H' => v = .bool true ∧ H' = H) := by
  refine SCalls.of_walk (n := 137) Try.func5 rfl rfl rfl fun cs => ?_
  refine At.seq ?_
  refine At.region ?_
  refine AtL.assign (.inl rfl) rfl rfl ?_
  refine AtL.done ?_
  refine At.seq ?_
  refine At.region ?_
  refine AtL.move (.inl rfl) rfl rfl ?_
  refine AtL.call tf_body18 (.inl rfl) rfl rfl made_f ?_
  rintro _ _ ⟨b1, rfl, rfl⟩
  refine AtL.assign (.inl rfl) rfl rfl ?_
  refine AtL.done ?_
  refine At.seq ?_
  refine At.seq ?_
  refine At.region ?_
  refine AtL.move (.inl rfl) rfl rfl ?_
  refine AtL.eqIfaceNil Try.underlying39 (.inl rfl) rfl rfl rfl ?_
  refine AtL.done ?_
  refine At.condF rfl ?_
  refine At.skip ?_
  refine At.seq ?_
  refine At.seq ?_
  refine At.region ?_
  refine AtL.move (.inl rfl) rfl rfl ?_
  refine AtL.call tf_body19 (.inl rfl) rfl rfl (long_ok (l := l) (Rd.skip 1 h) hb hl) ?_
  rintro _ _ ⟨z2, hz3, rfl, rfl⟩
  have hlong := hz3
  refine AtL.done ?_
  refine At.cond rfl ?_ ?_
  · intro hc2
    have hc2 : z2 = true := hc2
    refine At.seq ?_
    refine At.region ?_
    refine AtL.call tf_body9 (.inl rfl) rfl rfl awake_ok ?_
    rintro _ _ ⟨rfl, rfl⟩
    refine AtL.assign (.inl rfl) rfl rfl ?_
    refine AtL.done ?_
    refine At.pick (H' := H) [] 1 rfl rfl ?_
    exact At.ret Try.func5 rfl rfl (⟨rfl, rfl⟩)
  · intro hc2
    have hc2 : z2 = false := hc2
    refine At.skip ?_
    refine At.seq ?_
    refine At.region ?_
    refine AtL.move (.inl rfl) rfl rfl ?_
    refine AtL.build (cs := [.bool false, .slice none 0 0, .bool false, .bool false, .bool false, .bool false, .bool false]) tf_lay44 (.inl rfl) rfl rfl rfl ?_
    refine AtL.box (cs := #[.bool false, .slice none 0 0, .bool false, .bool false, .bool false, .bool false, .bool false]) rfl (.inl rfl) rfl rfl ?_
    intro b4
    refine AtL.assign (.inl rfl) rfl rfl ?_
    refine AtL.done ?_
    refine At.seq ?_
    refine At.seq ?_
    refine At.region ?_
    refine AtL.assign (.inl rfl) rfl rfl ?_
    refine AtL.done ?_
    refine At.block ?_
    obtain ⟨hl60, hb9⟩ := hlong hc2
    refine At.pick (H' := [(b1, .cells #[.bool false] 64 (0, 0))] :: [(b4, .cells #[.bool false, .slice none 0 0, .bool false, .bool false, .bool false, .bool false, .bool false] 44 (0, 0))] :: H) [1, 0] 2 rfl rfl ?_
    refine At.loop3 (fun (i : Nat) (g : Bool) (sh : Bool) => [(1, .slice A l.length C), (5, .iface 62 (.pointer (some ⟨b1, 0, none⟩))), (6, .pointer (some ⟨b4, 0, none⟩)), (7, .int .i64 (i : Int))]) (fun (i : Nat) (g : Bool) (sh : Bool) => [(b1, .cells #[.bool sh] 64 (0, 0))] :: [(b4, .cells #[.bool false, .slice none 0 0, .bool false, .bool false, .bool false, .bool g, .bool sh] 44 (0, 0))] :: H) (fun (i : Nat) (g : Bool) (sh : Bool) => i ≤ l.length) (fun (i : Nat) (g : Bool) (sh : Bool) => l.length - i) 0 false false (Nat.zero_le _) ⟨rfl, rfl, rfl, rfl, trivial⟩ rfl ?_
    rintro i g sh hi ihL1
    refine At.seq ?_
    refine At.seq ?_
    refine At.region ?_
    refine AtL.move (.inl rfl) rfl rfl ?_
    refine AtL.move (.inl rfl) rfl rfl ?_
    refine AtL.lenL Try.underlying37 (.inl rfl) rfl rfl ?_
    refine AtL.lss (.inl rfl) rfl rfl rfl ?_
    refine AtL.done ?_
    refine At.cond rfl ?_ ?_
    · intro hc3
      have hc3 : (i : Int) < (l.length : Int) := of_decide_eq_true hc3
      have hb1 := hb9 _ (getD_mem (l := l) (i := i) (d := ((0, ⟨none, 0, []⟩) : Int × Bs)) (by omega))
      refine At.skip ?_
      refine At.seq ?_
      refine At.block ?_
      refine At.seq ?_
      refine At.region ?_
      refine AtL.move (.inl rfl) rfl rfl ?_
      refine AtL.move (.inl rfl) rfl rfl ?_
      refine AtL.indexL i (Rd.skip 2 h) Try.underlying37 tf_sz46 (.inl rfl) rfl rfl rfl rfl (by omega) ?_
      refine AtL.fieldAddr tf_fo46_1 (.inl rfl) rfl rfl ?_
      refine AtL.load (v := .slice ((l.getD i ((0, ⟨none, 0, []⟩) : Int × Bs)).2.A) ((l.getD i ((0, ⟨none, 0, []⟩) : Int × Bs)).2.l).length ((l.getD i ((0, ⟨none, 0, []⟩) : Int × Bs)).2.C)) tf_flat22 (.inl rfl) rfl rfl (Rd.cell_at (Rd.skip 2 h) (j := 1) (getD_some ((0, ⟨none, 0, []⟩) : Int × Bs) (by omega)) rfl) ?_
      refine AtL.call tf_body20 (.inl rfl) rfl rfl (copy_ok (l := (l.getD i ((0, ⟨none, 0, []⟩) : Int × Bs)).2.l) (Rd.skip 2 (he _ (getD_mem (l := l) (i := i) (d := ((0, ⟨none, 0, []⟩) : Int × Bs)) (by omega)))) (by omega)) ?_
      rintro _ _ ⟨A5, C6, s7, o8, rfl, rfl⟩
      refine AtL.assign (.inl rfl) rfl rfl ?_
      refine AtL.done ?_
      refine At.seq ?_
      refine At.seq ?_
      refine At.region ?_
      refine AtL.move (.inl rfl) rfl rfl ?_
      refine AtL.move (.inl rfl) rfl rfl ?_
      refine AtL.indexL i (Rd.skip 3 h) Try.underlying37 tf_sz46 (.inl rfl) rfl rfl rfl rfl (by omega) ?_
      refine AtL.fieldAddr tf_fo46_0 (.inl rfl) rfl rfl ?_
      refine AtL.load (v := .int .i64 ((l.getD i ((0, ⟨none, 0, []⟩) : Int × Bs)).1)) tf_flat3 (.inl rfl) rfl rfl (Rd.cell_at (Rd.skip 3 h) (j := 0) (getD_some ((0, ⟨none, 0, []⟩) : Int × Bs) (by omega)) rfl) ?_
      refine AtL.call tf_body21 (.inl rfl) rfl rfl (pick_ok ((l.getD i ((0, ⟨none, 0, []⟩) : Int × Bs)).1) 4 (by omega)) ?_
      rintro _ _ ⟨rfl, rfl⟩
      refine AtL.done ?_
      refine At.block ?_
      refine At.seq ?_
      refine At.region ?_
      refine AtL.eqi (.inl rfl) rfl rfl rfl ?_
      refine AtL.assign (.inl rfl) rfl rfl ?_
      refine AtL.done ?_
      refine At.cond rfl ?_ ?_
      · intro hc4
        have hc4 : (pick ((l.getD i ((0, ⟨none, 0, []⟩) : Int × Bs)).1) 4) = 2 := of_decide_eq_true hc4
        refine At.seq ?_
        refine At.region ?_
        refine AtL.move (.inl rfl) rfl rfl ?_
        refine AtL.move (.inl rfl) rfl rfl ?_
        refine AtL.pick (H' := [(b1, .cells #[.bool sh] 64 (0, 0))] :: s7 :: [(b4, .cells #[.bool false, .slice none 0 0, .bool false, .bool false, .bool false, .bool g, .bool sh] 44 (0, 0))] :: H) [1, 0, 2] 3 rfl rfl ?_
        refine AtL.callI tf_body72 (.inl rfl) rfl rfl rfl (fun w => by kernel_rfl) (psend_ok (l := (l.getD i ((0, ⟨none, 0, []⟩) : Int × Bs)).2.l) (o8.rd (i := 0) rfl) (by first | omega | (simp only [List.length_append, List.length_cons, List.length_nil]; omega) | (simp; done) | (simp; omega))) ?_
        rintro _ _ ⟨⟨A9, C10, l11, s12, o13⟩, hx14, rfl, rfl⟩
        obtain rfl : psendF sh ((l.getD i ((0, ⟨none, 0, []⟩) : Int × Bs)).2.l) = l11 := hx14.symm
        refine AtL.assign (.inl rfl) rfl rfl ?_
        refine AtL.done ?_
        refine At.seq ?_
        refine At.seq ?_
        refine At.region ?_
        refine AtL.move (.inl rfl) rfl rfl ?_
        refine AtL.move (.inl rfl) rfl rfl ?_
        refine AtL.move (.inl rfl) rfl rfl ?_
        refine AtL.move (.inl rfl) rfl rfl ?_
        refine AtL.indexL i (Rd.skip 4 h) Try.underlying37 tf_sz46 (.inl rfl) rfl rfl rfl rfl (by omega) ?_
        refine AtL.fieldAddr tf_fo46_1 (.inl rfl) rfl rfl ?_
        refine AtL.load (v := .slice ((l.getD i ((0, ⟨none, 0, []⟩) : Int × Bs)).2.A) ((l.getD i ((0, ⟨none, 0, []⟩) : Int × Bs)).2.l).length ((l.getD i ((0, ⟨none, 0, []⟩) : Int × Bs)).2.C)) tf_flat22 (.inl rfl) rfl rfl (Rd.cell_at (Rd.skip 4 h) (j := 1) (getD_some ((0, ⟨none, 0, []⟩) : Int × Bs) (by omega)) rfl) ?_
        refine AtL.pick (H' := [(b4, .cells #[.bool false, .slice none 0 0, .bool false, .bool false, .bool false, .bool g, .bool sh] 44 (0, 0))] :: s12 :: [(b1, .cells #[.bool sh] 64 (0, 0))] :: s7 :: H) [3, 0, 1, 2] 4 rfl rfl ?_
        refine AtL.call tf_body22 (.inl rfl) rfl rfl (rsend_ok (l := (l.getD i ((0, ⟨none, 0, []⟩) : Int × Bs)).2.l) (Rd.skip 3 (he _ (getD_mem (l := l) (i := i) (d := ((0, ⟨none, 0, []⟩) : Int × Bs)) (by omega)))) (by first | omega | (simp only [List.length_append, List.length_cons, List.length_nil]; omega) | (simp; done) | (simp; omega))) ?_
        rintro _ _ ⟨⟨A15, C16, l17, s18, o19⟩, hx20, rfl, rfl⟩
        obtain rfl : psendF sh ((l.getD i ((0, ⟨none, 0, []⟩) : Int × Bs)).2.l) = l17 := hx20.symm
        refine AtL.call tf_body13 (.inl rfl) rfl rfl (same_ok (l := psendF sh ((l.getD i ((0, ⟨none, 0, []⟩) : Int × Bs)).2.l)) (l2 := psendF sh ((l.getD i ((0, ⟨none, 0, []⟩) : Int × Bs)).2.l)) (o13.rd (i := 2) rfl) (o19.rd (i := 0) rfl)) ?_
        rintro _ _ ⟨rfl, rfl⟩
        refine AtL.not (.inl rfl) rfl rfl ?_
        refine AtL.done ?_
        refine At.condIs false rfl (congrArg not (decide_eq_true rfl)) ?_
        refine At.skip ?_
        refine At.region ?_
        refine AtL.move (.inl rfl) rfl rfl ?_
        refine AtL.pick (H' := s12 :: s18 :: [(b4, .cells #[.bool false, .slice none 0 0, .bool false, .bool false, .bool false, .bool (sentF false g sh ((l.getD i ((0, ⟨none, 0, []⟩) : Int × Bs)).2.l)), .bool sh] 44 (0, 0))] :: [(b1, .cells #[.bool sh] 64 (0, 0))] :: s7 :: H) [2, 0, 1, 3, 4] 5 rfl rfl ?_
        refine AtL.call tf_body14 (.inl rfl) rfl rfl (over_own o13) ?_
        rintro _ _ ⟨s21, rfl, rfl⟩
        refine AtL.done ?_
        refine At.inBlock ?_
        refine At.seq ?_
        refine At.seq ?_
        refine At.draw (es := []) (pv := [(0, .slice A5 ((l.getD i ((0, ⟨none, 0, []⟩) : Int × Bs)).2.l).length C6), (1, .slice A l.length C), (2, .int .i64 (i : Int)), (3, .pointer (some (eaddr A (i * tyAct.sz)))), (4, .pointer (some ((eaddr A (i * tyAct.sz)).add 1))), (5, .slice ((l.getD i ((0, ⟨none, 0, []⟩) : Int × Bs)).2.A) ((l.getD i ((0, ⟨none, 0, []⟩) : Int × Bs)).2.l).length ((l.getD i ((0, ⟨none, 0, []⟩) : Int × Bs)).2.C)), (6, .bool true), (7, .bool false), (8, .bool false), (9, .iface 62 (.pointer (some ⟨b1, 0, none⟩))), (10, .int .i64 0), (11, .pointer (some ⟨b4, 0, none⟩)), (12, .pointer (some ⟨b4, 0, none⟩)), (13, .pointer (some ⟨b4, 1, none⟩)), (14, .slice none 0 0), (15, .int .i64 0), (16, .bool false), (17, .bool false), (18, .bool false), (19, .iface 62 (.pointer (some ⟨b1, 0, none⟩))), (20, .bool false), (21, .pointer (some ⟨b4, 0, none⟩)), (22, .pointer (some ⟨b4, 0, none⟩)), (23, .pointer (some ⟨b4, 4, none⟩)), (24, .bool false), (25, .bool false), (26, .bool false), (27, .bool false), (28, .iface 62 (.pointer (some ⟨b1, 0, none⟩))), (29, .bool false), (30, .pointer (some ⟨b4, 0, none⟩)), (31, .pointer (some ⟨b4, 0, none⟩)), (32, .pointer (some ⟨b4, 3, none⟩)), (33, .bool false), (34, .bool false), (35, .bool false)]) tf_mixed (by kernel_rfl) (by kernel_rfl) (by kernel_rfl) ?_
        refine ⟨⟨.inr ⟨_, rfl, rfl, .inl ⟨rfl, Do.move rfl⟩⟩, .inr ⟨_, rfl, rfl, .inl ⟨rfl, Do.move rfl⟩⟩, .inr ⟨_, rfl, rfl, .inl ⟨rfl, Do.move rfl⟩⟩, .inr ⟨_, rfl, rfl, .inl ⟨rfl, Do.indexL i (Rd.skip 5 h) Try.underlying37 tf_sz46 rfl rfl rfl (by omega)⟩⟩, .inr ⟨_, rfl, rfl, .inl ⟨rfl, Do.fieldAddr tf_fo46_1 rfl⟩⟩, .inr ⟨_, rfl, rfl, .inl ⟨rfl, Do.load (v := .slice ((l.getD i ((0, ⟨none, 0, []⟩) : Int × Bs)).2.A) ((l.getD i ((0, ⟨none, 0, []⟩) : Int × Bs)).2.l).length ((l.getD i ((0, ⟨none, 0, []⟩) : Int × Bs)).2.C)) tf_flat22 rfl (Rd.cell_at (Rd.skip 5 h) (j := 1) (getD_some ((0, ⟨none, 0, []⟩) : Int × Bs) (by omega)) rfl)⟩⟩, .inr ⟨_, rfl, rfl, .inl ⟨rfl, Do.asBool (Do.call tf_body13 rfl (same_ok (l := (l.getD i ((0, ⟨none, 0, []⟩) : Int × Bs)).2.l) (l2 := (l.getD i ((0, ⟨none, 0, []⟩) : Int × Bs)).2.l) (o8.rd (i := 4) rfl) (Rd.skip 5 (he _ (getD_mem (l := l) (i := i) (d := ((0, ⟨none, 0, []⟩) : Int × Bs)) (by omega)))))) (decide_eq_true rfl)⟩⟩, .inr ⟨_, rfl, rfl, .inl ⟨rfl, Do.not (b := true) rfl⟩⟩, .inr ⟨_, rfl, rfl, .inl ⟨rfl, Do.move rfl⟩⟩, .inr ⟨_, rfl, rfl, .inl ⟨⟨_, _, _, rfl, rfl, rfl, rfl⟩, Do.move rfl⟩⟩, .inr ⟨_, rfl, rfl, .inl ⟨⟨_, _, _, rfl, rfl, rfl, rfl⟩, Do.callI tf_body70 rfl rfl (fun w => by kernel_rfl) (pleft_ok (b := b1))⟩⟩, .inr ⟨_, rfl, rfl, .inl ⟨⟨_, _, _, rfl, rfl, rfl, rfl⟩, Do.move rfl⟩⟩, .inr ⟨_, rfl, rfl, .inl ⟨⟨_, _, _, rfl, rfl, rfl, rfl⟩, Do.nilCheck rfl⟩⟩, .inr ⟨_, rfl, rfl, .inl ⟨⟨_, _, _, rfl, rfl, rfl, rfl⟩, Do.fieldAddrB tf_fo44_1 rfl rfl⟩⟩, .inr ⟨_, rfl, rfl, .inl ⟨⟨_, _, _, rfl, rfl, rfl, rfl⟩, Do.load tf_flat22 rfl (Cell.own 2 0 rfl rfl rfl)⟩⟩, .inr ⟨_, rfl, rfl, .inl ⟨⟨_, _, _, rfl, rfl, rfl, rfl⟩, Do.lenL Try.underlying22 rfl⟩⟩, .inr ⟨_, rfl, rfl, .inl ⟨⟨_, _, _, rfl, rfl, rfl, rfl⟩, Do.asBool (Do.nei rfl rfl) rfl⟩⟩, .inr ⟨_, rfl, rfl, .inl ⟨rfl, Do.pickF rfl rfl⟩⟩, .inr ⟨_, rfl, rfl, .inl ⟨rfl, Do.move rfl⟩⟩, .inr ⟨_, rfl, rfl, .inl ⟨⟨_, _, _, rfl, rfl, rfl, rfl⟩, Do.move rfl⟩⟩, .inr ⟨_, rfl, rfl, .inl ⟨⟨_, _, _, rfl, rfl, rfl, rfl⟩, Do.callI tf_body69 rfl rfl (fun w => by kernel_rfl) (pended_ok (b := b1))⟩⟩, .inr ⟨_, rfl, rfl, .inl ⟨⟨_, _, _, rfl, rfl, rfl, rfl⟩, Do.move rfl⟩⟩, .inr ⟨_, rfl, rfl, .inl ⟨⟨_, _, _, rfl, rfl, rfl, rfl⟩, Do.nilCheck rfl⟩⟩, .inr ⟨_, rfl, rfl, .inl ⟨⟨_, _, _, rfl, rfl, rfl, rfl⟩, Do.fieldAddrB tf_fo44_4 rfl rfl⟩⟩, .inr ⟨_, rfl, rfl, .inl ⟨⟨_, _, _, rfl, rfl, rfl, rfl⟩, Do.load tf_flat4 rfl (Cell.own 2 0 rfl rfl rfl)⟩⟩, .inr ⟨_, rfl, rfl, .inl ⟨⟨_, _, _, rfl, rfl, rfl, rfl⟩, Do.asBool (Do.neb Try.underlying4 rfl rfl) rfl⟩⟩, .inr ⟨_, rfl, rfl, .inl ⟨rfl, Do.pickF rfl rfl⟩⟩, .inr ⟨_, rfl, rfl, .inl ⟨rfl, Do.move rfl⟩⟩, .inr ⟨_, rfl, rfl, .inl ⟨⟨_, _, _, rfl, rfl, rfl, rfl⟩, Do.move rfl⟩⟩, .inr ⟨_, rfl, rfl, .inl ⟨⟨_, _, _, rfl, rfl, rfl, rfl⟩, Do.callI tf_body67 rfl rfl (fun w => by kernel_rfl) (pbroken_ok (b := b1))⟩⟩, .inr ⟨_, rfl, rfl, .inl ⟨⟨_, _, _, rfl, rfl, rfl, rfl⟩, Do.move rfl⟩⟩, .inr ⟨_, rfl, rfl, .inl ⟨⟨_, _, _, rfl, rfl, rfl, rfl⟩, Do.nilCheck rfl⟩⟩, .inr ⟨_, rfl, rfl, .inl ⟨⟨_, _, _, rfl, rfl, rfl, rfl⟩, Do.fieldAddrB tf_fo44_3 rfl rfl⟩⟩, .inr ⟨_, rfl, rfl, .inl ⟨⟨_, _, _, rfl, rfl, rfl, rfl⟩, Do.load tf_flat4 rfl (Cell.own 2 0 rfl rfl rfl)⟩⟩, .inr ⟨_, rfl, rfl, .inl ⟨⟨_, _, _, rfl, rfl, rfl, rfl⟩, Do.asBool (Do.neb Try.underlying4 rfl rfl) rfl⟩⟩, .inr ⟨_, rfl, rfl, .inl ⟨rfl, Do.pickF rfl rfl⟩⟩, trivial⟩, by kernel_rfl, ?_⟩
        refine At.mono (E' := [(1, .slice A l.length C), (5, .iface 62 (.pointer (some ⟨b1, 0, none⟩))), (6, .pointer (some ⟨b4, 0, none⟩)), (7, .int .i64 (i : Int)), (8, .slice A5 ((l.getD i ((0, ⟨none, 0, []⟩) : Int × Bs)).2.l).length C6), (133, .bool false)]) ⟨rfl, rfl, rfl, rfl, rfl, rfl, trivial⟩ ?_
        refine At.condF rfl ?_
        refine At.skip ?_
        refine At.region ?_
        refine AtL.move (.inl rfl) rfl rfl ?_
        refine AtL.pick (H' := s7 :: s21 :: s18 :: [(b4, .cells #[.bool false, .slice none 0 0, .bool false, .bool false, .bool false, .bool (sentF false g sh ((l.getD i ((0, ⟨none, 0, []⟩) : Int × Bs)).2.l)), .bool sh] 44 (0, 0))] :: [(b1, .cells #[.bool sh] 64 (0, 0))] :: H) [4, 0, 1, 2, 3] 5 rfl rfl ?_
        refine AtL.call tf_body14 (.inl rfl) rfl rfl (over_own o8) ?_
        rintro _ _ ⟨s22, rfl, rfl⟩
        refine AtL.done ?_
        refine At.inBlock ?_
        refine At.region ?_
        refine AtL.move (.inl rfl) rfl rfl ?_
        refine AtL.add (z := (i : Int) + 1) (.inl rfl) rfl rfl rfl (w64 (by omega) (by omega)) ?_
        refine AtL.assign (.inl rfl) rfl rfl ?_
        refine AtL.done ?_
        refine At.pick (H' := [(b1, .cells #[.bool sh] 64 (0, 0))] :: [(b4, .cells #[.bool false, .slice none 0 0, .bool false, .bool false, .bool false, .bool (sentF false g sh ((l.getD i ((0, ⟨none, 0, []⟩) : Int × Bs)).2.l)), .bool sh] 44 (0, 0))] :: H) [4, 3] 5 rfl rfl ?_
        exact ihL1 (i + 1) (sentF false g sh ((l.getD i ((0, ⟨none, 0, []⟩) : Int × Bs)).2.l)) sh (by omega) (by omega) _ (by exact ⟨rfl, rfl, rfl, (by first | rfl | exact slLen (by simp []) | exact intEq (by omega) | exact intEq (by simp []) | exact slLen (by simp []; omega)), trivial⟩)
      · intro hc4
        have hc4 : ¬ ((pick ((l.getD i ((0, ⟨none, 0, []⟩) : Int × Bs)).1) 4) = 2) := of_decide_eq_false hc4
        refine At.seq ?_
        refine At.region ?_
        refine AtL.eqi (.inl rfl) rfl rfl rfl ?_
        refine AtL.assign (.inl rfl) rfl rfl ?_
        refine AtL.done ?_
        refine At.cond rfl ?_ ?_
        · intro hc6
          have hc6 : (pick ((l.getD i ((0, ⟨none, 0, []⟩) : Int × Bs)).1) 4) = 3 := of_decide_eq_true hc6
          refine At.seq ?_
          refine At.region ?_
          refine AtL.move (.inl rfl) rfl rfl ?_
          refine AtL.pick (H' := [(b1, .cells #[.bool sh] 64 (0, 0))] :: s7 :: [(b4, .cells #[.bool false, .slice none 0 0, .bool false, .bool false, .bool false, .bool g, .bool sh] 44 (0, 0))] :: H) [1, 0, 2] 3 rfl rfl ?_
          refine AtL.callI tf_body68 (.inl rfl) rfl rfl rfl (fun w => by kernel_rfl) pclose_ok ?_
          rintro _ _ ⟨rfl, rfl⟩
          refine AtL.assign (.inl rfl) rfl rfl ?_
          refine AtL.done ?_
          refine At.seq ?_
          refine At.seq ?_
          refine At.region ?_
          refine AtL.move (.inl rfl) rfl rfl ?_
          refine AtL.move (.inl rfl) rfl rfl ?_
          refine AtL.pick (H' := [(b4, .cells #[.bool false, .slice none 0 0, .bool false, .bool false, .bool false, .bool g, .bool sh] 44 (0, 0))] :: [(b1, .cells #[.bool true] 64 (0, 0))] :: s7 :: H) [2, 0, 1] 3 rfl rfl ?_
          refine AtL.call tf_body23 (.inl rfl) rfl rfl rclose_ok ?_
          rintro _ _ ⟨⟨A23, C24, l25, s26, o27⟩, hx28, rfl, rfl⟩
          obtain rfl : ([] : List UInt8) = l25 := hx28.symm
          refine AtL.call tf_body13 (.inl rfl) rfl rfl (same_ok (l := []) (l2 := ([] : List UInt8)) Rd.nil_ (o27.rd (i := 0) rfl)) ?_
          rintro _ _ ⟨rfl, rfl⟩
          refine AtL.not (.inl rfl) rfl rfl ?_
          refine AtL.done ?_
          refine At.condIs false rfl (congrArg not (decide_eq_true rfl)) ?_
          refine At.skip ?_
          refine At.region ?_
          refine AtL.move (.inl rfl) rfl rfl ?_
          refine AtL.nil ?_
          refine AtL.call tf_body14 (.inl rfl) rfl rfl (over_own (A := none) (C := 0) (l := []) (s := []) (Own.nil tyB 5)) ?_
          rintro _ _ ⟨s29, rfl, rfl⟩
          refine AtL.done ?_
          refine At.inBlock ?_
          refine At.seq ?_
          refine At.seq ?_
          refine At.draw (es := []) (pv := [(0, .slice A5 ((l.getD i ((0, ⟨none, 0, []⟩) : Int × Bs)).2.l).length C6), (1, .slice A l.length C), (2, .int .i64 (i : Int)), (3, .pointer (some (eaddr A (i * tyAct.sz)))), (4, .pointer (some ((eaddr A (i * tyAct.sz)).add 1))), (5, .slice ((l.getD i ((0, ⟨none, 0, []⟩) : Int × Bs)).2.A) ((l.getD i ((0, ⟨none, 0, []⟩) : Int × Bs)).2.l).length ((l.getD i ((0, ⟨none, 0, []⟩) : Int × Bs)).2.C)), (6, .bool true), (7, .bool false), (8, .bool false), (9, .iface 62 (.pointer (some ⟨b1, 0, none⟩))), (10, .int .i64 0), (11, .pointer (some ⟨b4, 0, none⟩)), (12, .pointer (some ⟨b4, 0, none⟩)), (13, .pointer (some ⟨b4, 1, none⟩)), (14, .slice none 0 0), (15, .int .i64 0), (16, .bool false), (17, .bool false), (18, .bool false), (19, .iface 62 (.pointer (some ⟨b1, 0, none⟩))), (20, .bool false), (21, .pointer (some ⟨b4, 0, none⟩)), (22, .pointer (some ⟨b4, 0, none⟩)), (23, .pointer (some ⟨b4, 4, none⟩)), (24, .bool false), (25, .bool false), (26, .bool false), (27, .bool false), (28, .iface 62 (.pointer (some ⟨b1, 0, none⟩))), (29, .bool false), (30, .pointer (some ⟨b4, 0, none⟩)), (31, .pointer (some ⟨b4, 0, none⟩)), (32, .pointer (some ⟨b4, 3, none⟩)), (33, .bool false), (34, .bool false), (35, .bool false)]) tf_mixed (by kernel_rfl) (by kernel_rfl) (by kernel_rfl) ?_
          refine ⟨⟨.inr ⟨_, rfl, rfl, .inl ⟨rfl, Do.move rfl⟩⟩, .inr ⟨_, rfl, rfl, .inl ⟨rfl, Do.move rfl⟩⟩, .inr ⟨_, rfl, rfl, .inl ⟨rfl, Do.move rfl⟩⟩, .inr ⟨_, rfl, rfl, .inl ⟨rfl, Do.indexL i (Rd.skip 5 h) Try.underlying37 tf_sz46 rfl rfl rfl (by omega)⟩⟩, .inr ⟨_, rfl, rfl, .inl ⟨rfl, Do.fieldAddr tf_fo46_1 rfl⟩⟩, .inr ⟨_, rfl, rfl, .inl ⟨rfl, Do.load (v := .slice ((l.getD i ((0, ⟨none, 0, []⟩) : Int × Bs)).2.A) ((l.getD i ((0, ⟨none, 0, []⟩) : Int × Bs)).2.l).length ((l.getD i ((0, ⟨none, 0, []⟩) : Int × Bs)).2.C)) tf_flat22 rfl (Rd.cell_at (Rd.skip 5 h) (j := 1) (getD_some ((0, ⟨none, 0, []⟩) : Int × Bs) (by omega)) rfl)⟩⟩, .inr ⟨_, rfl, rfl, .inl ⟨rfl, Do.asBool (Do.call tf_body13 rfl (same_ok (l := (l.getD i ((0, ⟨none, 0, []⟩) : Int × Bs)).2.l) (l2 := (l.getD i ((0, ⟨none, 0, []⟩) : Int × Bs)).2.l) (o8.rd (i := 4) rfl) (Rd.skip 5 (he _ (getD_mem (l := l) (i := i) (d := ((0, ⟨none, 0, []⟩) : Int × Bs)) (by omega)))))) (decide_eq_true rfl)⟩⟩, .inr ⟨_, rfl, rfl, .inl ⟨rfl, Do.not (b := true) rfl⟩⟩, .inr ⟨_, rfl, rfl, .inl ⟨rfl, Do.move rfl⟩⟩, .inr ⟨_, rfl, rfl, .inl ⟨⟨_, _, _, rfl, rfl, rfl, rfl⟩, Do.move rfl⟩⟩, .inr ⟨_, rfl, rfl, .inl ⟨⟨_, _, _, rfl, rfl, rfl, rfl⟩, Do.callI tf_body70 rfl rfl (fun w => by kernel_rfl) (pleft_ok (b := b1))⟩⟩, .inr ⟨_, rfl, rfl, .inl ⟨⟨_, _, _, rfl, rfl, rfl, rfl⟩, Do.move rfl⟩⟩, .inr ⟨_, rfl, rfl, .inl ⟨⟨_, _, _, rfl, rfl, rfl, rfl⟩, Do.nilCheck rfl⟩⟩, .inr ⟨_, rfl, rfl, .inl ⟨⟨_, _, _, rfl, rfl, rfl, rfl⟩, Do.fieldAddrB tf_fo44_1 rfl rfl⟩⟩, .inr ⟨_, rfl, rfl, .inl ⟨⟨_, _, _, rfl, rfl, rfl, rfl⟩, Do.load tf_flat22 rfl (Cell.own 2 0 rfl rfl rfl)⟩⟩, .inr ⟨_, rfl, rfl, .inl ⟨⟨_, _, _, rfl, rfl, rfl, rfl⟩, Do.lenL Try.underlying22 rfl⟩⟩, .inr ⟨_, rfl, rfl, .inl ⟨⟨_, _, _, rfl, rfl, rfl, rfl⟩, Do.asBool (Do.nei rfl rfl) rfl⟩⟩, .inr ⟨_, rfl, rfl, .inl ⟨rfl, Do.pickF rfl rfl⟩⟩, .inr ⟨_, rfl, rfl, .inl ⟨rfl, Do.move rfl⟩⟩, .inr ⟨_, rfl, rfl, .inl ⟨⟨_, _, _, rfl, rfl, rfl, rfl⟩, Do.move rfl⟩⟩, .inr ⟨_, rfl, rfl, .inl ⟨⟨_, _, _, rfl, rfl, rfl, rfl⟩, Do.callI tf_body69 rfl rfl (fun w => by kernel_rfl) (pended_ok (b := b1))⟩⟩, .inr ⟨_, rfl, rfl, .inl ⟨⟨_, _, _, rfl, rfl, rfl, rfl⟩, Do.move rfl⟩⟩, .inr ⟨_, rfl, rfl, .inl ⟨⟨_, _, _, rfl, rfl, rfl, rfl⟩, Do.nilCheck rfl⟩⟩, .inr ⟨_, rfl, rfl, .inl ⟨⟨_, _, _, rfl, rfl, rfl, rfl⟩, Do.fieldAddrB tf_fo44_4 rfl rfl⟩⟩, .inr ⟨_, rfl, rfl, .inl ⟨⟨_, _, _, rfl, rfl, rfl, rfl⟩, Do.load tf_flat4 rfl (Cell.own 2 0 rfl rfl rfl)⟩⟩, .inr ⟨_, rfl, rfl, .inl ⟨⟨_, _, _, rfl, rfl, rfl, rfl⟩, Do.asBool (Do.neb Try.underlying4 rfl rfl) rfl⟩⟩, .inr ⟨_, rfl, rfl, .inl ⟨rfl, Do.pickF rfl rfl⟩⟩, .inr ⟨_, rfl, rfl, .inl ⟨rfl, Do.move rfl⟩⟩, .inr ⟨_, rfl, rfl, .inl ⟨⟨_, _, _, rfl, rfl, rfl, rfl⟩, Do.move rfl⟩⟩, .inr ⟨_, rfl, rfl, .inl ⟨⟨_, _, _, rfl, rfl, rfl, rfl⟩, Do.callI tf_body67 rfl rfl (fun w => by kernel_rfl) (pbroken_ok (b := b1))⟩⟩, .inr ⟨_, rfl, rfl, .inl ⟨⟨_, _, _, rfl, rfl, rfl, rfl⟩, Do.move rfl⟩⟩, .inr ⟨_, rfl, rfl, .inl ⟨⟨_, _, _, rfl, rfl, rfl, rfl⟩, Do.nilCheck rfl⟩⟩, .inr ⟨_, rfl, rfl, .inl ⟨⟨_, _, _, rfl, rfl, rfl, rfl⟩, Do.fieldAddrB tf_fo44_3 rfl rfl⟩⟩, .inr ⟨_, rfl, rfl, .inl ⟨⟨_, _, _, rfl, rfl, rfl, rfl⟩, Do.load tf_flat4 rfl (Cell.own 2 0 rfl rfl rfl)⟩⟩, .inr ⟨_, rfl, rfl, .inl ⟨⟨_, _, _, rfl, rfl, rfl, rfl⟩, Do.asBool (Do.neb Try.underlying4 rfl rfl) rfl⟩⟩, .inr ⟨_, rfl, rfl, .inl ⟨rfl, Do.pickF rfl rfl⟩⟩, trivial⟩, by kernel_rfl, ?_⟩
          refine At.mono (E' := [(1, .slice A l.length C), (5, .iface 62 (.pointer (some ⟨b1, 0, none⟩))), (6, .pointer (some ⟨b4, 0, none⟩)), (7, .int .i64 (i : Int)), (8, .slice A5 ((l.getD i ((0, ⟨none, 0, []⟩) : Int × Bs)).2.l).length C6), (133, .bool false)]) ⟨rfl, rfl, rfl, rfl, rfl, rfl, trivial⟩ ?_
          refine At.condF rfl ?_
          refine At.skip ?_
          refine At.region ?_
          refine AtL.move (.inl rfl) rfl rfl ?_
          refine AtL.pick (H' := s7 :: s29 :: s26 :: [(b4, .cells #[.bool false, .slice none 0 0, .bool false, .bool false, .bool false, .bool (closedF false g sh), .bool true] 44 (0, 0))] :: [(b1, .cells #[.bool true] 64 (0, 0))] :: H) [4, 0, 1, 2, 3] 5 rfl rfl ?_
          refine AtL.call tf_body14 (.inl rfl) rfl rfl (over_own o8) ?_
          rintro _ _ ⟨s30, rfl, rfl⟩
          refine AtL.done ?_
          refine At.inBlock ?_
          refine At.region ?_
          refine AtL.move (.inl rfl) rfl rfl ?_
          refine AtL.add (z := (i : Int) + 1) (.inl rfl) rfl rfl rfl (w64 (by omega) (by omega)) ?_
          refine AtL.assign (.inl rfl) rfl rfl ?_
          refine AtL.done ?_
          refine At.pick (H' := [(b1, .cells #[.bool true] 64 (0, 0))] :: [(b4, .cells #[.bool false, .slice none 0 0, .bool false, .bool false, .bool false, .bool (closedF false g sh), .bool true] 44 (0, 0))] :: H) [4, 3] 5 rfl rfl ?_
          exact ihL1 (i + 1) (closedF false g sh) true (by omega) (by omega) _ (by exact ⟨rfl, rfl, rfl, (by first | rfl | exact slLen (by simp []) | exact intEq (by omega) | exact intEq (by simp []) | exact slLen (by simp []; omega)), trivial⟩)
        · intro hc6
          have hc6 : ¬ ((pick ((l.getD i ((0, ⟨none, 0, []⟩) : Int × Bs)).1) 4) = 3) := of_decide_eq_false hc6
          refine At.seq ?_
          refine At.region ?_
          refine AtL.move (.inl rfl) rfl rfl ?_
          refine AtL.move (.inl rfl) rfl rfl ?_
          refine AtL.callI tf_body71 (.inl rfl) rfl rfl rfl (fun w => by kernel_rfl) (ppush_ok (b := b1) (l := (l.getD i ((0, ⟨none, 0, []⟩) : Int × Bs)).2.l) (o8.rd (i := 0) rfl) (by first | omega | (simp only [List.length_append, List.length_cons, List.length_nil]; omega) | (simp; done) | (simp; omega))) ?_
          rintro _ _ ⟨⟨A31, C32, l33, s34, o35⟩, hx36, rfl, rfl⟩
          obtain rfl : (l.getD i ((0, ⟨none, 0, []⟩) : Int × Bs)).2.l = l33 := hx36.symm
          refine AtL.move (.inl rfl) rfl rfl ?_
          refine AtL.extract (.inl rfl) rfl rfl rfl ?_
          refine AtL.extract (.inl rfl) rfl rfl rfl ?_
          refine AtL.assign (.inl rfl) rfl rfl ?_
          refine AtL.assign (.inl rfl) rfl rfl ?_
          refine AtL.done ?_
          refine At.seq ?_
          refine At.region ?_
          refine AtL.move (.inl rfl) rfl rfl ?_
          refine AtL.move (.inl rfl) rfl rfl ?_
          refine AtL.move (.inl rfl) rfl rfl ?_
          refine AtL.indexL i (Rd.skip 4 h) Try.underlying37 tf_sz46 (.inl rfl) rfl rfl rfl rfl (by omega) ?_
          refine AtL.fieldAddr tf_fo46_1 (.inl rfl) rfl rfl ?_
          refine AtL.load (v := .slice ((l.getD i ((0, ⟨none, 0, []⟩) : Int × Bs)).2.A) ((l.getD i ((0, ⟨none, 0, []⟩) : Int × Bs)).2.l).length ((l.getD i ((0, ⟨none, 0, []⟩) : Int × Bs)).2.C)) tf_flat22 (.inl rfl) rfl rfl (Rd.cell_at (Rd.skip 4 h) (j := 1) (getD_some ((0, ⟨none, 0, []⟩) : Int × Bs) (by omega)) rfl) ?_
          refine AtL.pick (H' := [(b4, .cells #[.bool false, .slice none 0 0, .bool false, .bool false, .bool false, .bool g, .bool sh] 44 (0, 0))] :: s34 :: s7 :: [(b1, .cells #[.bool sh] 64 (0, 0))] :: H) [3, 0, 1, 2] 4 rfl rfl ?_
          refine AtL.call tf_body24 (.inl rfl) rfl rfl (rpushp_ok (l := (l.getD i ((0, ⟨none, 0, []⟩) : Int × Bs)).2.l) (Rd.skip 3 (he _ (getD_mem (l := l) (i := i) (d := ((0, ⟨none, 0, []⟩) : Int × Bs)) (by omega)))) (by first | omega | (simp only [List.length_append, List.length_cons, List.length_nil]; omega) | (simp; done) | (simp; omega))) ?_
          rintro _ _ ⟨⟨A37, C38, l39, s40, o41⟩, hx42, rfl, rfl⟩
          obtain rfl : (l.getD i ((0, ⟨none, 0, []⟩) : Int × Bs)).2.l = l39 := hx42.symm
          refine AtL.move (.inl rfl) rfl rfl ?_
          refine AtL.extract (.inl rfl) rfl rfl rfl ?_
          refine AtL.extract (.inl rfl) rfl rfl rfl ?_
          refine AtL.assign (.inl rfl) rfl rfl ?_
          refine AtL.assign (.inl rfl) rfl rfl ?_
          refine AtL.done ?_
          refine At.seq ?_
          refine At.seq ?_
          refine At.region ?_
          refine AtL.move (.inl rfl) rfl rfl ?_
          refine AtL.move (.inl rfl) rfl rfl ?_
          refine AtL.nei (.inl rfl) rfl rfl rfl ?_
          refine AtL.move (.inl rfl) rfl rfl ?_
          refine AtL.move (.inr ⟨_, _, _, rfl, rfl, rfl, rfl⟩) rfl rfl ?_
          refine AtL.move (.inr ⟨_, _, _, rfl, rfl, rfl, rfl⟩) rfl rfl ?_
          refine AtL.call tf_body13 (.inr ⟨_, _, _, rfl, rfl, rfl, rfl⟩) rfl rfl (same_ok (l := (l.getD i ((0, ⟨none, 0, []⟩) : Int × Bs)).2.l) (l2 := (l.getD i ((0, ⟨none, 0, []⟩) : Int × Bs)).2.l) (o35.rd (i := 2) rfl) (o41.rd (i := 0) rfl)) ?_
          rintro _ _ ⟨rfl, rfl⟩
          refine AtL.not (.inr ⟨_, _, _, rfl, rfl, rfl, rfl⟩) rfl rfl ?_
          refine AtL.pickF (.inl rfl) rfl rfl rfl ?_
          refine AtL.done ?_
          refine At.condIs false rfl (congrArg not (decide_eq_true rfl)) ?_
          refine At.skip ?_
          refine At.region ?_
          refine AtL.move (.inl rfl) rfl rfl ?_
          refine AtL.pick (H' := s34 :: s40 :: [(b4, .cells #[.bool false, .slice none 0 0, .bool false, .bool false, .bool false, .bool g, .bool sh] 44 (0, 0))] :: s7 :: [(b1, .cells #[.bool sh] 64 (0, 0))] :: H) [2, 0, 1, 3, 4] 5 rfl rfl ?_
          refine AtL.call tf_body14 (.inl rfl) rfl rfl (over_own o35) ?_
          rintro _ _ ⟨s43, rfl, rfl⟩
          refine AtL.done ?_
          refine At.inBlock ?_
          refine At.seq ?_
          refine At.seq ?_
          refine At.draw (es := []) (pv := [(0, .slice A5 ((l.getD i ((0, ⟨none, 0, []⟩) : Int × Bs)).2.l).length C6), (1, .slice A l.length C), (2, .int .i64 (i : Int)), (3, .pointer (some (eaddr A (i * tyAct.sz)))), (4, .pointer (some ((eaddr A (i * tyAct.sz)).add 1))), (5, .slice ((l.getD i ((0, ⟨none, 0, []⟩) : Int × Bs)).2.A) ((l.getD i ((0, ⟨none, 0, []⟩) : Int × Bs)).2.l).length ((l.getD i ((0, ⟨none, 0, []⟩) : Int × Bs)).2.C)), (6, .bool true), (7, .bool false), (8, .bool false), (9, .iface 62 (.pointer (some ⟨b1, 0, none⟩))), (10, .int .i64 0), (11, .pointer (some ⟨b4, 0, none⟩)), (12, .pointer (some ⟨b4, 0, none⟩)), (13, .pointer (some ⟨b4, 1, none⟩)), (14, .slice none 0 0), (15, .int .i64 0), (16, .bool false), (17, .bool false), (18, .bool false), (19, .iface 62 (.pointer (some ⟨b1, 0, none⟩))), (20, .bool false), (21, .pointer (some ⟨b4, 0, none⟩)), (22, .pointer (some ⟨b4, 0, none⟩)), (23, .pointer (some ⟨b4, 4, none⟩)), (24, .bool false), (25, .bool false), (26, .bool false), (27, .bool false), (28, .iface 62 (.pointer (some ⟨b1, 0, none⟩))), (29, .bool false), (30, .pointer (some ⟨b4, 0, none⟩)), (31, .pointer (some ⟨b4, 0, none⟩)), (32, .pointer (some ⟨b4, 3, none⟩)), (33, .bool false), (34, .bool false), (35, .bool false)]) tf_mixed (by kernel_rfl) (by kernel_rfl) (by kernel_rfl) ?_
          refine ⟨⟨.inr ⟨_, rfl, rfl, .inl ⟨rfl, Do.move rfl⟩⟩, .inr ⟨_, rfl, rfl, .inl ⟨rfl, Do.move rfl⟩⟩, .inr ⟨_, rfl, rfl, .inl ⟨rfl, Do.move rfl⟩⟩, .inr ⟨_, rfl, rfl, .inl ⟨rfl, Do.indexL i (Rd.skip 5 h) Try.underlying37 tf_sz46 rfl rfl rfl (by omega)⟩⟩, .inr ⟨_, rfl, rfl, .inl ⟨rfl, Do.fieldAddr tf_fo46_1 rfl⟩⟩, .inr ⟨_, rfl, rfl, .inl ⟨rfl, Do.load (v := .slice ((l.getD i ((0, ⟨none, 0, []⟩) : Int × Bs)).2.A) ((l.getD i ((0, ⟨none, 0, []⟩) : Int × Bs)).2.l).length ((l.getD i ((0, ⟨none, 0, []⟩) : Int × Bs)).2.C)) tf_flat22 rfl (Rd.cell_at (Rd.skip 5 h) (j := 1) (getD_some ((0, ⟨none, 0, []⟩) : Int × Bs) (by omega)) rfl)⟩⟩, .inr ⟨_, rfl, rfl, .inl ⟨rfl, Do.asBool (Do.call tf_body13 rfl (same_ok (l := (l.getD i ((0, ⟨none, 0, []⟩) : Int × Bs)).2.l) (l2 := (l.getD i ((0, ⟨none, 0, []⟩) : Int × Bs)).2.l) (o8.rd (i := 3) rfl) (Rd.skip 5 (he _ (getD_mem (l := l) (i := i) (d := ((0, ⟨none, 0, []⟩) : Int × Bs)) (by omega)))))) (decide_eq_true rfl)⟩⟩, .inr ⟨_, rfl, rfl, .inl ⟨rfl, Do.not (b := true) rfl⟩⟩, .inr ⟨_, rfl, rfl, .inl ⟨rfl, Do.move rfl⟩⟩, .inr ⟨_, rfl, rfl, .inl ⟨⟨_, _, _, rfl, rfl, rfl, rfl⟩, Do.move rfl⟩⟩, .inr ⟨_, rfl, rfl, .inl ⟨⟨_, _, _, rfl, rfl, rfl, rfl⟩, Do.callI tf_body70 rfl rfl (fun w => by kernel_rfl) (pleft_ok (b := b1))⟩⟩, .inr ⟨_, rfl, rfl, .inl ⟨⟨_, _, _, rfl, rfl, rfl, rfl⟩, Do.move rfl⟩⟩, .inr ⟨_, rfl, rfl, .inl ⟨⟨_, _, _, rfl, rfl, rfl, rfl⟩, Do.nilCheck rfl⟩⟩, .inr ⟨_, rfl, rfl, .inl ⟨⟨_, _, _, rfl, rfl, rfl, rfl⟩, Do.fieldAddrB tf_fo44_1 rfl rfl⟩⟩, .inr ⟨_, rfl, rfl, .inl ⟨⟨_, _, _, rfl, rfl, rfl, rfl⟩, Do.load tf_flat22 rfl (Cell.own 2 0 rfl rfl rfl)⟩⟩, .inr ⟨_, rfl, rfl, .inl ⟨⟨_, _, _, rfl, rfl, rfl, rfl⟩, Do.lenL Try.underlying22 rfl⟩⟩, .inr ⟨_, rfl, rfl, .inl ⟨⟨_, _, _, rfl, rfl, rfl, rfl⟩, Do.asBool (Do.nei rfl rfl) rfl⟩⟩, .inr ⟨_, rfl, rfl, .inl ⟨rfl, Do.pickF rfl rfl⟩⟩, .inr ⟨_, rfl, rfl, .inl ⟨rfl, Do.move rfl⟩⟩, .inr ⟨_, rfl, rfl, .inl ⟨⟨_, _, _, rfl, rfl, rfl, rfl⟩, Do.move rfl⟩⟩, .inr ⟨_, rfl, rfl, .inl ⟨⟨_, _, _, rfl, rfl, rfl, rfl⟩, Do.callI tf_body69 rfl rfl (fun w => by kernel_rfl) (pended_ok (b := b1))⟩⟩, .inr ⟨_, rfl, rfl, .inl ⟨⟨_, _, _, rfl, rfl, rfl, rfl⟩, Do.move rfl⟩⟩, .inr ⟨_, rfl, rfl, .inl ⟨⟨_, _, _, rfl, rfl, rfl, rfl⟩, Do.nilCheck rfl⟩⟩, .inr ⟨_, rfl, rfl, .inl ⟨⟨_, _, _, rfl, rfl, rfl, rfl⟩, Do.fieldAddrB tf_fo44_4 rfl rfl⟩⟩, .inr ⟨_, rfl, rfl, .inl ⟨⟨_, _, _, rfl, rfl, rfl, rfl⟩, Do.load tf_flat4 rfl (Cell.own 2 0 rfl rfl rfl)⟩⟩, .inr ⟨_, rfl, rfl, .inl ⟨⟨_, _, _, rfl, rfl, rfl, rfl⟩, Do.asBool (Do.neb Try.underlying4 rfl rfl) rfl⟩⟩, .inr ⟨_, rfl, rfl, .inl ⟨rfl, Do.pickF rfl rfl⟩⟩, .inr ⟨_, rfl, rfl, .inl ⟨rfl, Do.move rfl⟩⟩, .inr ⟨_, rfl, rfl, .inl ⟨⟨_, _, _, rfl, rfl, rfl, rfl⟩, Do.move rfl⟩⟩, .inr ⟨_, rfl, rfl, .inl ⟨⟨_, _, _, rfl, rfl, rfl, rfl⟩, Do.callI tf_body67 rfl rfl (fun w => by kernel_rfl) (pbroken_ok (b := b1))⟩⟩, .inr ⟨_, rfl, rfl, .inl ⟨⟨_, _, _, rfl, rfl, rfl, rfl⟩, Do.move rfl⟩⟩, .inr ⟨_, rfl, rfl, .inl ⟨⟨_, _, _, rfl, rfl, rfl, rfl⟩, Do.nilCheck rfl⟩⟩, .inr ⟨_, rfl, rfl, .inl ⟨⟨_, _, _, rfl, rfl, rfl, rfl⟩, Do.fieldAddrB tf_fo44_3 rfl rfl⟩⟩, .inr ⟨_, rfl, rfl, .inl ⟨⟨_, _, _, rfl, rfl, rfl, rfl⟩, Do.load tf_flat4 rfl (Cell.own 2 0 rfl rfl rfl)⟩⟩, .inr ⟨_, rfl, rfl, .inl ⟨⟨_, _, _, rfl, rfl, rfl, rfl⟩, Do.asBool (Do.neb Try.underlying4 rfl rfl) rfl⟩⟩, .inr ⟨_, rfl, rfl, .inl ⟨rfl, Do.pickF rfl rfl⟩⟩, trivial⟩, by kernel_rfl, ?_⟩
          refine At.mono (E' := [(1, .slice A l.length C), (5, .iface 62 (.pointer (some ⟨b1, 0, none⟩))), (6, .pointer (some ⟨b4, 0, none⟩)), (7, .int .i64 (i : Int)), (8, .slice A5 ((l.getD i ((0, ⟨none, 0, []⟩) : Int × Bs)).2.l).length C6), (133, .bool false)]) ⟨rfl, rfl, rfl, rfl, rfl, rfl, trivial⟩ ?_
          refine At.condF rfl ?_
          refine At.skip ?_
          refine At.region ?_
          refine AtL.move (.inl rfl) rfl rfl ?_
          refine AtL.pick (H' := s7 :: s43 :: s40 :: [(b4, .cells #[.bool false, .slice none 0 0, .bool false, .bool false, .bool false, .bool g, .bool sh] 44 (0, 0))] :: [(b1, .cells #[.bool sh] 64 (0, 0))] :: H) [3, 0, 1, 2, 4] 5 rfl rfl ?_
          refine AtL.call tf_body14 (.inl rfl) rfl rfl (over_own o8) ?_
          rintro _ _ ⟨s44, rfl, rfl⟩
          refine AtL.done ?_
          refine At.inBlock ?_
          refine At.region ?_
          refine AtL.move (.inl rfl) rfl rfl ?_
          refine AtL.add (z := (i : Int) + 1) (.inl rfl) rfl rfl rfl (w64 (by omega) (by omega)) ?_
          refine AtL.assign (.inl rfl) rfl rfl ?_
          refine AtL.done ?_
          refine At.pick (H' := [(b1, .cells #[.bool sh] 64 (0, 0))] :: [(b4, .cells #[.bool false, .slice none 0 0, .bool false, .bool false, .bool false, .bool g, .bool sh] 44 (0, 0))] :: H) [4, 3] 5 rfl rfl ?_
          exact ihL1 (i + 1) g sh (by omega) (by omega) _ (by exact ⟨rfl, rfl, rfl, (by first | rfl | exact slLen (by simp []) | exact intEq (by omega) | exact intEq (by simp []) | exact slLen (by simp []; omega)), trivial⟩)
    · intro hc3
      have hc3 : ¬ ((i : Int) < (l.length : Int)) := of_decide_eq_false hc3
      refine At.exit rfl ?_
      refine At.seq ?_
      refine At.region ?_
      refine AtL.call tf_body9 (.inl rfl) rfl rfl awake_ok ?_
      rintro _ _ ⟨rfl, rfl⟩
      refine AtL.assign (.inl rfl) rfl rfl ?_
      refine AtL.done ?_
      refine At.pick (H' := H) [] 2 rfl rfl ?_
      exact At.ret Try.func5 rfl rfl (⟨rfl, rfl⟩)

end Go.Proofs.Ytllfgcekebafhaa
