/- HeadWrites: the walk. -/
import Derived.Test.YtlfkoimkojbghaaGreatDoorS1
namespace Go.Proofs.YtlfkoimkojbghaaGreatDoor
set_option linter.unusedVariables false
set_option linter.unusedSimpArgs false
set_option maxRecDepth 100000

set_option maxHeartbeats 400000 in
theorem headwrites_ok {w0 : World} {base : Nat} {H : List Seg} {m t : List UInt8} {minor : Int} {A : Option Addr} {C : Nat} {fs : List (List UInt8 × List UInt8)} (h : Rd tyField w0 base H A C fs) (hb : ∀ f ∈ fs, f.1.length ≤ 140737488355000 ∧ f.2.length ≤ 140737488355000) (T : Tabs w0 base) :
    SCalls Tryz.prog 4 [.agg #[str m, str t, .int .i64 minor, .slice A fs.length C]] w0 base (H) (fun v H' => v = .bool true ∧ H' = H) := by
  have hle0 := h.le
  have hcap0 := h.cap
  refine SCalls.of_walk (n := 59) Tryz.func4 rfl rfl rfl fun cs => ?_
  refine At.seq ?_
  refine At.region ?_
  refine AtL.box (cs := #[str m, str t, .int .i64 minor, .slice A fs.length C]) rfl (.inl rfl) rfl rfl ?_
  intro b1
  refine AtL.assign (.inl rfl) rfl rfl ?_
  refine AtL.done ?_
  refine At.seq ?_
  refine At.seq ?_
  refine At.region ?_
  refine AtL.loadN (cs := [str m, str t, .int .i64 minor, .slice A fs.length C]) tf_agg35 (.inl rfl) rfl rfl rfl (cellsOwn 0 0 0 rfl rfl rfl) ?_
  refine AtL.call tf_body30 (.inl rfl) rfl rfl (longhead_ok (m := m) (t := t) (minor := minor) (fs := fs) (Rd.skip 1 h) hb) ?_
  rintro _ _ ⟨bl2, rfl, hx3, rfl⟩
  have hlong := hx3
  refine AtL.done ?_
  refine At.cond rfl ?_ ?_
  · intro hc1
    have hc1 : bl2 = true := hc1
    refine At.seq ?_
    refine At.region ?_
    refine AtL.call tf_body31 (.inl rfl) rfl rfl (awake_ok T) ?_
    rintro _ _ ⟨rfl, rfl⟩
    refine AtL.assign (.inl rfl) rfl rfl ?_
    refine AtL.done ?_
    refine At.pick (H' := H) [] 1 rfl rfl ?_
    exact At.ret Tryz.func4 rfl rfl (⟨rfl, rfl⟩)
  · intro hc1
    have hc1 : bl2 = false := hc1
    obtain ⟨hm6, ht6, hf60, hb6⟩ := hlong (by simpa using hc1)
    have hm : m.length ≤ 10000 := by omega
    have ht : t.length ≤ 10000 := by omega
    have hfl : fs.length ≤ 1000 := by omega
    have hb2 : ∀ f ∈ fs, f.1.length ≤ 10000 ∧ f.2.length ≤ 10000 := fun f hf => by have := hb6 f hf; omega
    refine At.skip ?_
    refine At.seq ?_
    refine At.region ?_
    refine AtL.loadN (cs := [str m, str t, .int .i64 minor, .slice A fs.length C]) tf_agg35 (.inl rfl) rfl rfl rfl (cellsOwn 0 0 0 rfl rfl rfl) ?_
    refine AtL.call tf_body32 (.inl rfl) rfl rfl (copyhead_ok (m := m) (t := t) (minor := minor) (fs := fs) (Rd.skip 1 h) (by omega)) ?_
    rintro _ _ ⟨⟨A4, C5, l6, s7, o8⟩, hx9, rfl, rfl⟩
    obtain rfl : fs = l6 := hx9.symm
    refine AtL.alloc tf_zero35 (cs := #[str [], str [], .int .i64 0, .slice none 0 0]) rfl (.inl rfl) rfl ?_
    intro b10
    refine AtL.store (H' := [(b10, .cells #[str m, str t, .int .i64 minor, .slice A4 fs.length C5] 35 (0, 0))] :: s7 :: [(b1, .cells #[str m, str t, .int .i64 minor, .slice A fs.length C] 35 (0, 0))] :: H) 0 0 tf_sz35 (.inl rfl) rfl rfl rfl rfl rfl rfl rfl rfl rfl ?_
    refine AtL.done ?_
    refine At.seq ?_
    refine At.region ?_
    refine AtL.loadN (cs := [str m, str t, .int .i64 minor, .slice A4 fs.length C5]) tf_agg35 (.inl rfl) rfl rfl rfl (cellsOwn 0 0 0 rfl rfl rfl) ?_
    refine AtL.call tf_body33 (.inl rfl) rfl rfl (write_ok (m := m) (t := t) (minor := minor) (fs := fs) (o8.rd (i := 1) rfl) hfl hb2 hm ht) ?_
    rintro _ _ ⟨⟨A11, C12, l13, s14, o15⟩, hx16, rfl, rfl⟩
    obtain rfl : writeL ⟨m, t, minor, fs⟩ = l13 := hx16.symm
    refine AtL.move (.inl rfl) rfl rfl ?_
    refine AtL.extract (.inl rfl) rfl rfl rfl ?_
    refine AtL.extract (.inl rfl) rfl rfl rfl ?_
    refine AtL.assign (.inl rfl) rfl rfl ?_
    refine AtL.assign (.inl rfl) rfl rfl ?_
    refine AtL.done ?_
    refine At.seq ?_
    refine At.region ?_
    refine AtL.loadN (cs := [str m, str t, .int .i64 minor, .slice A fs.length C]) tf_agg35 (.inl rfl) rfl rfl rfl (cellsOwn 3 0 0 rfl rfl rfl) ?_
    refine AtL.call tf_body34 (.inl rfl) rfl rfl (rwrite_ok (m := m) (t := t) (minor := minor) (fs := fs) (Rd.skip 4 h) hfl hb2 hm ht) ?_
    rintro _ _ ⟨⟨A17, C18, l19, s20, o21⟩, hx22, rfl, rfl⟩
    obtain rfl : writeL ⟨m, t, minor, fs⟩ = l19 := hx22.symm
    refine AtL.move (.inl rfl) rfl rfl ?_
    refine AtL.extract (.inl rfl) rfl rfl rfl ?_
    refine AtL.extract (.inl rfl) rfl rfl rfl ?_
    refine AtL.assign (.inl rfl) rfl rfl ?_
    refine AtL.assign (.inl rfl) rfl rfl ?_
    refine AtL.done ?_
    refine At.seq ?_
    refine At.seq ?_
    refine At.draw (es := []) (pv := [(0, .int .i64 (writeE ⟨m, t, minor, fs⟩)), (1, .int .i64 (writeE ⟨m, t, minor, fs⟩)), (2, .bool false), (3, .bool false), (4, .slice A11 (writeL ⟨m, t, minor, fs⟩).length C12), (5, .slice A17 (writeL ⟨m, t, minor, fs⟩).length C18), (6, .bool true), (7, .bool false), (8, .bool false), (9, .bool false), (10, .agg #[str m, str t, .int .i64 minor, .slice A4 fs.length C5]), (11, .int .i64 (writeE ⟨m, t, minor, fs⟩)), (12, .agg #[str m, str t, .int .i64 minor, .slice A fs.length C]), (13, .int .i64 (writeE ⟨m, t, minor, fs⟩)), (14, .bool false), (15, .bool false)]) tf_mixed (by kernel_rfl) (by kernel_rfl) (by kernel_rfl) ?_
    refine ⟨⟨.inr ⟨_, rfl, rfl, .inl ⟨rfl, Do.move rfl⟩⟩, .inr ⟨_, rfl, rfl, .inl ⟨rfl, Do.move rfl⟩⟩, .inr ⟨_, rfl, rfl, .inl ⟨rfl, Do.asBool (Do.nei rfl rfl) (congrArg not (decide_eq_true rfl))⟩⟩, .inr ⟨_, rfl, rfl, .inl ⟨rfl, Do.move rfl⟩⟩, .inr ⟨_, rfl, rfl, .inl ⟨⟨_, _, _, rfl, rfl, rfl, rfl⟩, Do.move rfl⟩⟩, .inr ⟨_, rfl, rfl, .inl ⟨⟨_, _, _, rfl, rfl, rfl, rfl⟩, Do.move rfl⟩⟩, .inr ⟨_, rfl, rfl, .inl ⟨⟨_, _, _, rfl, rfl, rfl, rfl⟩, Do.asBool (Do.call tf_body27 rfl (same_ok (l := writeL ⟨m, t, minor, fs⟩) (l2 := writeL ⟨m, t, minor, fs⟩) (o15.rd (i := 1) rfl) (o21.rd (i := 0) rfl))) (decide_eq_true rfl)⟩⟩, .inr ⟨_, rfl, rfl, .inl ⟨⟨_, _, _, rfl, rfl, rfl, rfl⟩, Do.not (b := true) rfl⟩⟩, .inr ⟨_, rfl, rfl, .inl ⟨rfl, Do.pickF rfl rfl⟩⟩, .inr ⟨_, rfl, rfl, .inl ⟨rfl, Do.move rfl⟩⟩, .inr ⟨_, rfl, rfl, .inl ⟨⟨_, _, _, rfl, rfl, rfl, rfl⟩, Do.loadN (cs := [str m, str t, .int .i64 minor, .slice A4 fs.length C5]) tf_agg35 rfl rfl (cellsOwn 2 0 0 rfl rfl rfl)⟩⟩, .inr ⟨_, rfl, rfl, .inl ⟨⟨_, _, _, rfl, rfl, rfl, rfl⟩, Do.call tf_body35 rfl (check_ok (m := m) (t := t) (minor := minor) (fs := fs) (o8.rd (i := 3) rfl) hfl hb2 hm ht)⟩⟩, .inr ⟨_, rfl, rfl, .inl ⟨⟨_, _, _, rfl, rfl, rfl, rfl⟩, Do.loadN (cs := [str m, str t, .int .i64 minor, .slice A fs.length C]) tf_agg35 rfl rfl (cellsOwn 4 0 0 rfl rfl rfl)⟩⟩, .inr ⟨_, rfl, rfl, .inl ⟨⟨_, _, _, rfl, rfl, rfl, rfl⟩, Do.call tf_body36 rfl (rcheck_ok (m := m) (t := t) (minor := minor) (fs := fs) (Rd.skip 5 h) hfl hb2 hm ht)⟩⟩, .inr ⟨_, rfl, rfl, .inl ⟨⟨_, _, _, rfl, rfl, rfl, rfl⟩, Do.asBool (Do.nei rfl rfl) (congrArg not (decide_eq_true rfl))⟩⟩, .inr ⟨_, rfl, rfl, .inl ⟨rfl, Do.pickF rfl rfl⟩⟩, trivial⟩, by kernel_rfl, ?_⟩
    refine At.mono (E' := [(1, .pointer (some ⟨b1, 0, none⟩)), (3, .pointer (some ⟨b10, 0, none⟩)), (4, .slice A11 (writeL ⟨m, t, minor, fs⟩).length C12), (6, .slice A17 (writeL ⟨m, t, minor, fs⟩).length C18), (40, .bool false)]) ⟨rfl, rfl, rfl, rfl, rfl, trivial⟩ ?_
    refine At.condF rfl ?_
    refine At.skip ?_
    refine At.seq ?_
    refine At.region ?_
    refine AtL.move (.inl rfl) rfl rfl ?_
    refine AtL.pick (H' := s14 :: s20 :: [(b10, .cells #[str m, str t, .int .i64 minor, .slice A4 fs.length C5] 35 (0, 0))] :: s7 :: [(b1, .cells #[str m, str t, .int .i64 minor, .slice A fs.length C] 35 (0, 0))] :: H) [1, 0, 2, 3, 4] 5 rfl rfl ?_
    refine AtL.call tf_body28 (.inl rfl) rfl rfl (over_own o15) ?_
    rintro _ _ ⟨s23, rfl, rfl⟩
    refine AtL.done ?_
    refine At.seq ?_
    refine At.region ?_
    refine AtL.loadN (cs := [str m, str t, .int .i64 minor, .slice A4 fs.length C5]) tf_agg35 (.inl rfl) rfl rfl rfl (cellsOwn 2 0 0 rfl rfl rfl) ?_
    refine AtL.call tf_body33 (.inl rfl) rfl rfl (write_ok (m := m) (t := t) (minor := minor) (fs := fs) (o8.rd (i := 3) rfl) hfl hb2 hm ht) ?_
    rintro _ _ ⟨⟨A24, C25, l26, s27, o28⟩, hx29, rfl, rfl⟩
    obtain rfl : writeL ⟨m, t, minor, fs⟩ = l26 := hx29.symm
    refine AtL.move (.inl rfl) rfl rfl ?_
    refine AtL.extract (.inl rfl) rfl rfl rfl ?_
    refine AtL.extract (.inl rfl) rfl rfl rfl ?_
    refine AtL.assign (.inl rfl) rfl rfl ?_
    refine AtL.assign (.inl rfl) rfl rfl ?_
    refine AtL.done ?_
    refine At.seq ?_
    refine At.region ?_
    refine AtL.move (.inl rfl) rfl rfl ?_
    refine AtL.move (.inl rfl) rfl rfl ?_
    refine AtL.call tf_body27 (.inl rfl) rfl rfl (same_ok (l := writeL ⟨m, t, minor, fs⟩) (l2 := writeL ⟨m, t, minor, fs⟩) (o28.rd (i := 0) rfl) (o21.rd (i := 2) rfl)) ?_
    rintro _ _ ⟨rfl, rfl⟩
    refine AtL.move (.inl rfl) rfl rfl ?_
    refine AtL.join 4 (E' := [(55, .bool (decide ((⟨m, t, minor, fs⟩ : HeadV) = ⟨m, t, minor, fs⟩)))]) (H' := s27 :: s23 :: s20 :: [(b10, .cells #[str m, str t, .int .i64 minor, .slice A4 fs.length C5] 35 (0, 0))] :: s7 :: [(b1, .cells #[str m, str t, .int .i64 minor, .slice A fs.length C] 35 (0, 0))] :: H) (fun J => ?_) ?_
    · refine AtL.split (t := 51) rfl ?_ ?_
      · intro hs51
        have hs51 : writeL ⟨m, t, minor, fs⟩ = writeL ⟨m, t, minor, fs⟩ := of_decide_eq_true hs51
        refine AtL.loadN (cs := [str m, str t, .int .i64 minor, .slice A4 fs.length C5]) tf_agg35 (.inr ⟨_, _, _, rfl, rfl, rfl, rfl⟩) rfl rfl rfl (cellsOwn 3 0 0 rfl rfl rfl) ?_
        refine AtL.loadN (cs := [str m, str t, .int .i64 minor, .slice A fs.length C]) tf_agg35 (.inr ⟨_, _, _, rfl, rfl, rfl, rfl⟩) rfl rfl rfl (cellsOwn 5 0 0 rfl rfl rfl) ?_
        refine AtL.call tf_body37 (.inr ⟨_, _, _, rfl, rfl, rfl, rfl⟩) rfl rfl (samehead_ok (m := m) (t := t) (minor := minor) (m2 := m) (t2 := t) (minor2 := minor) (fs := fs) (gs := fs) (o8.rd (i := 4) rfl) (Rd.skip 6 h)) ?_
        rintro _ _ ⟨rfl, rfl⟩
        refine AtL.pickT (.inl rfl) rfl rfl rfl ?_
        exact J _ (by exact ⟨(boolIs (by clear J; first | (simp [hs51]; done) | (simp_all; done) | grind)), trivial⟩)
      · intro hs51
        exact Bool.noConfusion (hs51.symm.trans (decide_eq_true rfl))
    · skip
      refine AtL.move (.inl rfl) rfl rfl ?_
      refine AtL.join 2 (E' := [(58, .bool true)]) (H' := s27 :: s23 :: s20 :: [(b10, .cells #[str m, str t, .int .i64 minor, .slice A4 fs.length C5] 35 (0, 0))] :: s7 :: [(b1, .cells #[str m, str t, .int .i64 minor, .slice A fs.length C] 35 (0, 0))] :: H) (fun J => ?_) ?_
      · refine AtL.split (t := 56) rfl ?_ ?_
        · intro hs56
          have hs56 : (⟨m, t, minor, fs⟩ : HeadV) = ⟨m, t, minor, fs⟩ := of_decide_eq_true hs56
          refine AtL.call tf_body31 (.inr ⟨_, _, _, rfl, rfl, rfl, rfl⟩) rfl rfl (awake_ok T) ?_
          rintro _ _ ⟨rfl, rfl⟩
          refine AtL.pickT (.inl rfl) rfl rfl rfl ?_
          exact J _ (by exact ⟨rfl, trivial⟩)
        · intro hs56
          have hs56 : ¬ ((⟨m, t, minor, fs⟩ : HeadV) = ⟨m, t, minor, fs⟩) := of_decide_eq_false hs56
          exfalso; revert hs56; simp
      · skip
        refine AtL.assign (.inl rfl) rfl rfl ?_
        refine AtL.done ?_
        refine At.pick (H' := H) [] 6 rfl rfl ?_
        exact At.ret Tryz.func4 rfl rfl (⟨rfl, rfl⟩)

end Go.Proofs.YtlfkoimkojbghaaGreatDoor
