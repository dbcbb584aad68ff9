/- The parts of the proof that this law needs, in the order of their texts: the logic of walks, the plain laws, the walks. -/
import Derived.Test.YtdncjmehhahidaaGreatDoorQC19
import Derived.Test.YtdncjmehhahidaaGreatDoorQC20
namespace Go.Proofs.YtdncjmehhahidaaGreatDoor
set_option linter.unusedVariables false
set_option linter.unusedSimpArgs false
set_option maxRecDepth 100000
theorem awakeb_any {w0 : World} {base : Nat} {H : List Seg} (T10 : Tab10 w0 base) : SCalls Tryz.prog 15 [] w0 base H (fun u H' => u = .bool true ∧ H' = H) :=
  SCalls.of_belowX fun w S => (law_ofE (awakeb_ok (T10.now S))).mono fun e w' ⟨he, hb⟩ => ⟨.bool true, he, rfl, hb⟩
set_option maxHeartbeats 400000 in
theorem line_nil {w0 : World} {base : Nat} {H : List Seg} {l : List UInt8} :
    SCalls Tryz.prog 16 [.pointer none, str l] w0 base (H) (fun v H' => v = .slice none 0 0 ∧ H' = H) := by
  refine SCalls.of_walk (n := 64) Tryz.func16 rfl rfl rfl fun cs => ?_
  refine At.seq ?_
  refine At.region ?_
  refine AtL.assign (.inl rfl) rfl rfl ?_
  refine AtL.done ?_
  refine At.seq ?_
  refine At.seq ?_
  refine At.region ?_
  refine AtL.move (.inl rfl) rfl rfl ?_
  refine AtL.eqPtrNil Tryz.underlying63 (.inl rfl) rfl rfl rfl ?_
  refine AtL.move (.inl rfl) rfl rfl ?_
  refine AtL.skipped rfl rfl rfl rfl rfl rfl ?_
  refine AtL.skipped rfl rfl rfl rfl rfl rfl ?_
  refine AtL.skipped rfl rfl rfl rfl rfl rfl ?_
  refine AtL.skipped rfl rfl rfl rfl rfl rfl ?_
  refine AtL.skipped rfl rfl rfl rfl rfl rfl ?_
  refine AtL.pickT (.inl rfl) rfl rfl rfl ?_
  refine AtL.done ?_
  refine At.condT rfl ?_
  refine At.seq ?_
  refine At.region ?_
  refine AtL.assign (.inl rfl) rfl rfl ?_
  refine AtL.done ?_
  exact At.ret Tryz.func16 rfl rfl (⟨rfl, rfl⟩)
set_option maxHeartbeats 400000 in
theorem line_zero {w0 : World} {base : Nat} {H : List Seg} {c : Nat} {l : List UInt8} :
    SCalls Tryz.prog 16 [.pointer (some ⟨c, 0, none⟩), str l] w0 base ([(c, .cells #[.bool false, .slice none 0 0, .pointer none] 65 (0, 0))] :: H) (fun v H' => v = .slice none 0 0 ∧ H' = [(c, .cells #[.bool false, .slice none 0 0, .pointer none] 65 (0, 0))] :: H) := by
  refine SCalls.of_walk (n := 64) Tryz.func16 rfl rfl rfl fun cs => ?_
  refine At.seq ?_
  refine At.region ?_
  refine AtL.assign (.inl rfl) rfl rfl ?_
  refine AtL.done ?_
  refine At.seq ?_
  refine At.seq ?_
  refine At.region ?_
  refine AtL.move (.inl rfl) rfl rfl ?_
  refine AtL.eqPtrNil Tryz.underlying63 (.inl rfl) rfl rfl rfl ?_
  refine AtL.move (.inl rfl) rfl rfl ?_
  refine AtL.move (.inr ⟨_, _, _, rfl, rfl, rfl, rfl⟩) rfl rfl ?_
  refine AtL.nilCheck (.inr ⟨_, _, _, rfl, rfl, rfl, rfl⟩) rfl rfl ?_
  refine AtL.fieldAddrB tf_fo65_0 (.inr ⟨_, _, _, rfl, rfl, rfl, rfl⟩) rfl rfl rfl ?_
  refine AtL.load tf_flat4 (.inr ⟨_, _, _, rfl, rfl, rfl, rfl⟩) rfl rfl (Cell.own 0 0 rfl rfl rfl) ?_
  refine AtL.not (.inr ⟨_, _, _, rfl, rfl, rfl, rfl⟩) rfl rfl ?_
  refine AtL.pickF (.inl rfl) rfl rfl rfl ?_
  refine AtL.done ?_
  refine At.condT rfl ?_
  refine At.seq ?_
  refine At.region ?_
  refine AtL.assign (.inl rfl) rfl rfl ?_
  refine AtL.done ?_
  exact At.ret Tryz.func16 rfl rfl (⟨rfl, rfl⟩)
set_option maxHeartbeats 400000 in
theorem benchnone_ok {w0 : World} {base : Nat} {H : List Seg} (l : List UInt8) (hl : l.length ≤ 140737488351232) (T10 : Tab10 w0 base) :
    SCalls Tryz.prog 4 [str l] w0 base (H) (fun v H' => v = .bool true ∧ H' = H) := by
  refine SCalls.of_walk (n := 32) Tryz.func4 rfl rfl rfl fun cs => ?_
  refine At.seq ?_
  refine At.region ?_
  refine AtL.assign (.inl rfl) rfl rfl ?_
  refine AtL.done ?_
  refine At.seq ?_
  refine At.seq ?_
  refine At.region ?_
  refine AtL.move (.inl rfl) rfl rfl ?_
  refine AtL.lenS (l := l) Tryz.underlying9 (.inl rfl) rfl rfl ?_
  refine AtL.gtr (.inl rfl) rfl rfl rfl ?_
  refine AtL.done ?_
  refine At.cond rfl ?_ ?_
  · intro hc1
    have hc1 : 12000 < (l.length : Int) := of_decide_eq_true hc1
    refine At.seq ?_
    refine At.region ?_
    refine AtL.call tf_body15 (.inl rfl) rfl rfl (awakeb_any T10) ?_
    rintro _ _ ⟨rfl, hHq⟩
    obtain rfl := hHq.symm
    refine AtL.assign (.inl rfl) rfl rfl ?_
    refine AtL.done ?_
    exact At.ret Tryz.func4 rfl rfl (⟨rfl, rfl⟩)
  · intro hc1
    have hc1 : ¬ (12000 < (l.length : Int)) := of_decide_eq_false hc1
    refine At.skip ?_
    refine At.seq ?_
    refine At.region ?_
    refine AtL.assign (.inl rfl) rfl rfl ?_
    refine AtL.done ?_
    refine At.seq ?_
    refine At.region ?_
    refine AtL.move (.inl rfl) rfl rfl ?_
    refine AtL.build (cs := [.bool false, .slice none 0 0, .pointer none]) tf_lay65 (.inl rfl) rfl rfl rfl ?_
    refine AtL.box (cs := #[.bool false, .slice none 0 0, .pointer none]) rfl (.inl rfl) rfl rfl ?_
    intro b1
    refine AtL.buildSlice (cs := [.pointer none, .pointer (some ⟨b1, 0, none⟩)]) Tryz.underlying66 tf_zero63 tf_sz63 rfl rfl (.inl rfl) rfl rfl rfl ?_
    intro b2
    refine AtL.assign (.inl rfl) rfl rfl ?_
    refine AtL.done ?_
    refine At.seq ?_
    refine At.region ?_
    refine AtL.move (.inl rfl) rfl rfl ?_
    refine AtL.indexB 0 Tryz.underlying66 tf_sz63 (.inl rfl) rfl rfl rfl rfl rfl rfl ?_
    refine AtL.load tf_flat63 (.inl rfl) rfl rfl (Cell.own 0 0 rfl rfl rfl) ?_
    refine AtL.move (.inl rfl) rfl rfl ?_
    refine AtL.call tf_body16 (.inl rfl) rfl rfl (line_nil (l := l)) ?_
    rintro _ _ ⟨rfl, rfl⟩
    refine AtL.lenL Tryz.underlying67 (.inl rfl) rfl rfl ?_
    refine AtL.eqi (.inl rfl) rfl rfl rfl ?_
    refine AtL.move (.inl rfl) rfl rfl ?_
    refine AtL.move (.inr ⟨_, _, _, rfl, rfl, rfl, rfl⟩) rfl rfl ?_
    refine AtL.indexB 1 Tryz.underlying66 tf_sz63 (.inr ⟨_, _, _, rfl, rfl, rfl, rfl⟩) rfl rfl rfl rfl rfl rfl ?_
    refine AtL.load tf_flat63 (.inr ⟨_, _, _, rfl, rfl, rfl, rfl⟩) rfl rfl (Cell.own 0 0 rfl rfl rfl) ?_
    refine AtL.move (.inr ⟨_, _, _, rfl, rfl, rfl, rfl⟩) rfl rfl ?_
    refine AtL.pick (H' := [(b1, .cells #[.bool false, .slice none 0 0, .pointer none] 65 (0, 0))] :: [(b2, .cells #[.pointer none, .pointer (some ⟨b1, 0, none⟩)] 63 (0, 0))] :: H) [1, 0] 2 rfl rfl ?_
    refine AtL.call tf_body16 (.inr ⟨_, _, _, rfl, rfl, rfl, rfl⟩) rfl rfl (line_zero (l := l)) ?_
    rintro _ _ ⟨rfl, rfl⟩
    refine AtL.lenL Tryz.underlying67 (.inr ⟨_, _, _, rfl, rfl, rfl, rfl⟩) rfl rfl ?_
    refine AtL.eqi (.inr ⟨_, _, _, rfl, rfl, rfl, rfl⟩) rfl rfl rfl ?_
    refine AtL.pickT (.inl rfl) rfl rfl rfl ?_
    refine AtL.move (.inl rfl) rfl rfl ?_
    refine AtL.call tf_body15 (.inr ⟨_, _, _, rfl, rfl, rfl, rfl⟩) rfl rfl (awakeb_any T10) ?_
    rintro _ _ ⟨rfl, rfl⟩
    refine AtL.pickT (.inl rfl) rfl rfl rfl ?_
    refine AtL.assign (.inl rfl) rfl rfl ?_
    refine AtL.done ?_
    refine At.pick (H' := H) [] 2 rfl rfl ?_
    exact At.ret Tryz.func4 rfl rfl (⟨rfl, rfl⟩)
end Go.Proofs.YtdncjmehhahidaaGreatDoor
