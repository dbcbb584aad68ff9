/- The statements of requests: examples. -/
import Derived.Test.YtlkdmbpbjhjkfaaGreatDoorE7
import Derived.Test.YtlkdmbpbjhjkfaaGreatDoorTK1
namespace Go.Proofs.YtlkdmbpbjhjkfaaGreatDoor
set_option linter.unusedVariables false
set_option linter.unusedSimpArgs false
set_option maxRecDepth 100000

set_option maxHeartbeats 400000 in
theorem get16_ok {w0 : World} {base : Nat} {H : List Seg} {m t : List UInt8} :
    SCalls Tryz.prog 37 [str m, str t] w0 base (H) (fun v H' => ∃ x : Sl tyField 78, x.l = [(([72, 111, 115, 116] : List UInt8), ([120] : List UInt8))] ∧ v = .agg #[str m, str t, int 1, .slice x.A x.l.length x.C] ∧ H' = x.s :: H) := by
  refine SCalls.of_walk (n := 10) Tryz.func37 rfl rfl rfl fun cs => ?_
  refine At.seq ?_
  refine At.region ?_
  refine AtL.alloc tf_zero47 (cs := #[str [], str [], .int .i64 0, .slice none 0 0]) rfl (.inl rfl) rfl ?_
  intro b1
  refine AtL.done ?_
  refine At.seq ?_
  refine At.region ?_
  refine AtL.move (.inl rfl) rfl rfl ?_
  refine AtL.move (.inl rfl) rfl rfl ?_
  refine AtL.build (cs := [str [72, 111, 115, 116], str [120]]) tf_lay78 (.inl rfl) rfl rfl rfl ?_
  refine AtL.buildSlice (cs := [str [72, 111, 115, 116], str [120]]) Tryz.underlying45 tf_zero78 tf_sz78 rfl rfl (.inl rfl) rfl rfl rfl ?_
  intro b2
  refine AtL.own1 tyField (l := ([(([72, 111, 115, 116] : List UInt8), ([120] : List UInt8))] : List (List UInt8 × List UInt8))) rfl rfl (by first | decide | simp) ?_
  intro s3 o4
  refine AtL.build (cs := [str m, str t, .int .i64 1, .slice (some ⟨b2, 0, none⟩) ([(([72, 111, 115, 116] : List UInt8), ([120] : List UInt8))]).length 1]) tf_lay47 (.inl rfl) rfl rfl rfl ?_
  refine AtL.store (H' := s3 :: [(b1, .cells #[str m, str t, .int .i64 1, .slice (some ⟨b2, 0, none⟩) ([(([72, 111, 115, 116] : List UInt8), ([120] : List UInt8))]).length 1] 47 (0, 0))] :: H) 1 0 tf_sz47 (.inl rfl) rfl rfl rfl rfl rfl rfl rfl rfl rfl ?_
  refine AtL.done ?_
  exact At.retMP (vs := [.agg #[str m, str t, .int .i64 1, .slice (some ⟨b2, 0, none⟩) ([(([72, 111, 115, 116] : List UInt8), ([120] : List UInt8))]).length 1]]) (H2 := s3 :: H) [0] 2 rfl rfl Tryz.func37 rfl ⟨⟨_, rfl, LoadsTo.agg (cs := [str m, str t, .int .i64 1, .slice (some ⟨b2, 0, none⟩) ([(([72, 111, 115, 116] : List UInt8), ([120] : List UInt8))]).length 1]) tf_agg47 rfl (cellsOwn 1 0 0 rfl rfl rfl)⟩, trivial⟩ (⟨⟨(some ⟨b2, 0, none⟩), 1, [(([72, 111, 115, 116] : List UInt8), ([120] : List UInt8))], s3, o4⟩, rfl, rfl, rfl⟩)

end Go.Proofs.YtlkdmbpbjhjkfaaGreatDoor
