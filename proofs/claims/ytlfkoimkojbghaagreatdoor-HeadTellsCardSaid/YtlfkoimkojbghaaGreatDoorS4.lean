/- HeadTells: the walk. -/
import Derived.Test.YtlfkoimkojbghaaGreatDoorS1
import Derived.Test.YtlfkoimkojbghaaGreatDoorI3
import Derived.Test.YtlfkoimkojbghaaGreatDoorR6
import Derived.Test.YtlfkoimkojbghaaGreatDoorI2
import Derived.Test.YtlfkoimkojbghaaGreatDoorR5
namespace Go.Proofs.YtlfkoimkojbghaaGreatDoor
set_option linter.unusedVariables false
set_option linter.unusedSimpArgs false
set_option maxRecDepth 100000

set_option maxHeartbeats 400000 in
theorem headtells_ok {w0 : World} {base : Nat} {H : List Seg} {m t : List UInt8} {minor : Int} {A : Option Addr} {C : Nat} {fs : List (List UInt8 × List UInt8)} (h : Rd tyField w0 base H A C fs) (hb : ∀ f ∈ fs, f.1.length ≤ 140737488355000 ∧ f.2.length ≤ 140737488355000) (T : Tabs w0 base) {nm : List UInt8} :
    SCalls Tryz.prog 10 [.agg #[str m, str t, .int .i64 minor, .slice A fs.length C], str nm] w0 base (H) (fun v H' => v = .bool true ∧ H' = H) := by
  have hle0 := h.le
  have hcap0 := h.cap
  refine SCalls.of_walk (n := 79) Tryz.func10 rfl rfl rfl fun cs => ?_
  refine At.seq ?_
  refine At.region ?_
  refine AtL.box (cs := #[str m, str t, .int .i64 minor, .slice A fs.length C]) rfl (.inl rfl) rfl rfl ?_
  intro b1
  refine AtL.assign (.inl rfl) rfl rfl ?_
  refine AtL.done ?_
  refine At.seq ?_
  refine At.seq ?_
  refine At.region ?_
  refine AtL.loadN (cs := [str m, str t, .int .i64 minor, .slice A fs.length C]) tf_agg35 (.inl rfl) rfl rfl rfl (cellsOwn 0 0 0 rfl rfl rfl) ?_
  refine AtL.call tf_body30 (.inl rfl) rfl rfl (longhead_ok (m := m) (t := t) (minor := minor) (fs := fs) (Rd.skip 1 h) hb) ?_
  rintro _ _ ⟨bl2, rfl, hx3, rfl⟩
  have hlong := hx3
  refine AtL.move (.inl rfl) rfl rfl ?_
  refine AtL.join 4 (E' := [(20, .bool (decide ((bl2 = true) ∨ (200 < (nm.length : Int))))), (1, str nm), (2, .pointer (some ⟨b1, 0, none⟩))]) (H' := [(b1, .cells #[str m, str t, .int .i64 minor, .slice A fs.length C] 35 (0, 0))] :: H) (fun J => ?_) ?_
  · refine AtL.split (t := 16) rfl ?_ ?_
    · intro hs16
      have hs16 : bl2 = true := hs16
      refine AtL.skipped rfl rfl rfl rfl rfl rfl ?_
      refine AtL.skipped rfl rfl rfl rfl rfl rfl ?_
      refine AtL.skipped rfl rfl rfl rfl rfl rfl ?_
      refine AtL.pickT (.inl rfl) rfl rfl rfl ?_
      exact J _ (by exact ⟨(boolIs (by clear J; first | (simp [hs16]; done) | (simp_all; done) | grind)), rfl, rfl, trivial⟩)
    · intro hs16
      have hs16 : bl2 = false := hs16
      refine AtL.move (.inr ⟨_, _, _, rfl, rfl, rfl, rfl⟩) rfl rfl ?_
      refine AtL.lenS (l := nm) Tryz.underlying9 (.inr ⟨_, _, _, rfl, rfl, rfl, rfl⟩) rfl rfl ?_
      refine AtL.gtr (.inr ⟨_, _, _, rfl, rfl, rfl, rfl⟩) rfl rfl rfl ?_
      refine AtL.pickF (.inl rfl) rfl rfl rfl ?_
      exact J _ (by exact ⟨(boolIs (by clear J; first | (simp [hs16]; done) | (simp_all; done) | grind)), rfl, rfl, trivial⟩)
  · skip
    refine AtL.done ?_
    refine At.cond rfl ?_ ?_
    · intro hc1
      have hc1 : (bl2 = true) ∨ (200 < (nm.length : Int)) := of_decide_eq_true hc1
      refine At.seq ?_
      refine At.region ?_
      refine AtL.call tf_body31 (.inl rfl) rfl rfl (awake_ok T) ?_
      rintro _ _ ⟨rfl, rfl⟩
      refine AtL.assign (.inl rfl) rfl rfl ?_
      refine AtL.done ?_
      refine At.pick (H' := H) [] 1 rfl rfl ?_
      exact At.ret Tryz.func10 rfl rfl (⟨rfl, rfl⟩)
    · intro hc1
      have hc1 : ¬ ((bl2 = true) ∨ (200 < (nm.length : Int))) := of_decide_eq_false hc1
      simp only [not_or, Bool.not_eq_true] at hc1
      obtain ⟨hm6, ht6, hf60, hb6⟩ := hlong hc1.1
      have hfl : fs.length ≤ 1000 := by omega
      have hnm200 := hc1.2
      have hb4 : ∀ f ∈ fs, f.2.length < 4294967281 := fun f hf => by have := hb6 f hf; omega
      refine At.skip ?_
      refine At.seq ?_
      refine At.region ?_
      refine AtL.loadN (cs := [str m, str t, .int .i64 minor, .slice A fs.length C]) tf_agg35 (.inl rfl) rfl rfl rfl (cellsOwn 0 0 0 rfl rfl rfl) ?_
      refine AtL.call tf_body32 (.inl rfl) rfl rfl (copyhead_ok (m := m) (t := t) (minor := minor) (fs := fs) (Rd.skip 1 h) (by omega)) ?_
      rintro _ _ ⟨⟨A4, C5, l6, s7, o8⟩, hx9, rfl, rfl⟩
      obtain rfl : fs = l6 := hx9.symm
      refine AtL.alloc tf_zero35 (cs := #[str [], str [], .int .i64 0, .slice none 0 0]) rfl (.inl rfl) rfl ?_
      intro b10
      refine AtL.store (H' := [(b10, .cells #[str m, str t, .int .i64 minor, .slice A4 fs.length C5] 35 (0, 0))] :: s7 :: [(b1, .cells #[str m, str t, .int .i64 minor, .slice A fs.length C] 35 (0, 0))] :: H) 0 0 tf_sz35 (.inl rfl) rfl rfl rfl rfl rfl rfl rfl rfl rfl ?_
      refine AtL.done ?_
      refine At.seq ?_
      refine At.region ?_
      refine AtL.loadN (cs := [str m, str t, .int .i64 minor, .slice A4 fs.length C5]) tf_agg35 (.inl rfl) rfl rfl rfl (cellsOwn 0 0 0 rfl rfl rfl) ?_
      refine AtL.move (.inl rfl) rfl rfl ?_
      refine AtL.call tf_body51 (.inl rfl) rfl rfl (field_ok (fs := fs) (o8.rd (i := 1) rfl) (nm := nm) (by omega) hfl hb) ?_
      rintro _ _ ⟨rfl, rfl⟩
      refine AtL.move (.inl rfl) rfl rfl ?_
      refine AtL.extract (.inl rfl) rfl rfl rfl ?_
      refine AtL.extract (.inl rfl) rfl rfl rfl ?_
      refine AtL.assign (.inl rfl) rfl rfl ?_
      refine AtL.assign (.inl rfl) rfl rfl ?_
      refine AtL.done ?_
      refine At.seq ?_
      refine At.region ?_
      refine AtL.loadN (cs := [str m, str t, .int .i64 minor, .slice A fs.length C]) tf_agg35 (.inl rfl) rfl rfl rfl (cellsOwn 2 0 0 rfl rfl rfl) ?_
      refine AtL.move (.inl rfl) rfl rfl ?_
      refine AtL.call tf_body52 (.inl rfl) rfl rfl (rfield_ok (m := m) (t := t) (minor := minor) (fs := fs) (Rd.skip 3 h) (nm := nm) (by omega) hfl hb) ?_
      rintro _ _ ⟨rfl, rfl⟩
      refine AtL.move (.inl rfl) rfl rfl ?_
      refine AtL.extract (.inl rfl) rfl rfl rfl ?_
      refine AtL.extract (.inl rfl) rfl rfl rfl ?_
      refine AtL.assign (.inl rfl) rfl rfl ?_
      refine AtL.assign (.inl rfl) rfl rfl ?_
      refine AtL.done ?_
      refine At.seq ?_
      refine At.region ?_
      refine AtL.loadN (cs := [str m, str t, .int .i64 minor, .slice A4 fs.length C5]) tf_agg35 (.inl rfl) rfl rfl rfl (cellsOwn 0 0 0 rfl rfl rfl) ?_
      refine AtL.call tf_body50 (.inl rfl) rfl rfl (length_ok (m := m) (t := t) (minor := minor) (fs := fs) (o8.rd (i := 1) rfl) hfl hb) ?_
      rintro _ _ ⟨rfl, rfl⟩
      refine AtL.move (.inl rfl) rfl rfl ?_
      refine AtL.extract (.inl rfl) rfl rfl rfl ?_
      refine AtL.extract (.inl rfl) rfl rfl rfl ?_
      refine AtL.assign (.inl rfl) rfl rfl ?_
      refine AtL.assign (.inl rfl) rfl rfl ?_
      refine AtL.done ?_
      refine At.seq ?_
      refine At.region ?_
      refine AtL.loadN (cs := [str m, str t, .int .i64 minor, .slice A fs.length C]) tf_agg35 (.inl rfl) rfl rfl rfl (cellsOwn 2 0 0 rfl rfl rfl) ?_
      refine AtL.call tf_body53 (.inl rfl) rfl rfl (rlength_ok (m := m) (t := t) (minor := minor) (fs := fs) (Rd.skip 3 h) hfl hb) ?_
      rintro _ _ ⟨rfl, rfl⟩
      refine AtL.move (.inl rfl) rfl rfl ?_
      refine AtL.extract (.inl rfl) rfl rfl rfl ?_
      refine AtL.extract (.inl rfl) rfl rfl rfl ?_
      refine AtL.assign (.inl rfl) rfl rfl ?_
      refine AtL.assign (.inl rfl) rfl rfl ?_
      refine AtL.done ?_
      refine At.seq ?_
      refine At.draw (es := []) (pv := [(0, str ((fieldF fs nm).1)), (1, str ((fieldF fs nm).1)), (2, .bool true), (3, .bool true), (4, .int .i64 ((fieldF fs nm).2 : Int)), (5, .int .i64 ((fieldF fs nm).2 : Int)), (6, .bool true), (7, .bool true), (8, .bool true), (9, .int .i64 ((lengthF fs).1)), (10, .int .i64 ((lengthF fs).1)), (11, .bool true), (12, .bool true), (13, .bool true), (14, .int .i64 ((lengthF fs).2)), (15, .int .i64 ((lengthF fs).2)), (16, .bool true), (17, .bool true), (18, .bool true), (19, .agg #[str m, str t, .int .i64 minor, .slice A4 fs.length C5]), (20, .bool (keepF fs minor)), (21, .agg #[str m, str t, .int .i64 minor, .slice A fs.length C]), (22, .bool (keepF fs minor)), (23, .bool true), (24, .bool true), (25, .bool true), (26, .agg #[str m, str t, .int .i64 minor, .slice A4 fs.length C5]), (27, .agg #[str m, str t, .int .i64 minor, .slice A fs.length C]), (28, .bool true), (29, .bool true), (30, .bool true), (31, .bool true), (32, .bool true), (33, .bool true)]) tf_mixed (by kernel_rfl) (by kernel_rfl) (by kernel_rfl) ?_
      refine ⟨⟨.inr ⟨_, rfl, rfl, .inl ⟨rfl, Do.move rfl⟩⟩, .inr ⟨_, rfl, rfl, .inl ⟨rfl, Do.move rfl⟩⟩, .inr ⟨_, rfl, rfl, .inl ⟨rfl, Do.asBool (Do.eqs (a := (fieldF fs nm).1) (b := (fieldF fs nm).1) rfl rfl) (decide_eq_true rfl)⟩⟩, .inr ⟨_, rfl, rfl, .inl ⟨rfl, Do.move rfl⟩⟩, .inr ⟨_, rfl, rfl, .inl ⟨⟨_, _, _, rfl, rfl, rfl, rfl⟩, Do.move rfl⟩⟩, .inr ⟨_, rfl, rfl, .inl ⟨⟨_, _, _, rfl, rfl, rfl, rfl⟩, Do.move rfl⟩⟩, .inr ⟨_, rfl, rfl, .inl ⟨⟨_, _, _, rfl, rfl, rfl, rfl⟩, Do.asBool (Do.eqi rfl rfl) (decide_eq_true rfl)⟩⟩, .inr ⟨_, rfl, rfl, .inl ⟨rfl, Do.pickT rfl rfl⟩⟩, .inr ⟨_, rfl, rfl, .inl ⟨rfl, Do.move rfl⟩⟩, .inr ⟨_, rfl, rfl, .inl ⟨⟨_, _, _, rfl, rfl, rfl, rfl⟩, Do.move rfl⟩⟩, .inr ⟨_, rfl, rfl, .inl ⟨⟨_, _, _, rfl, rfl, rfl, rfl⟩, Do.move rfl⟩⟩, .inr ⟨_, rfl, rfl, .inl ⟨⟨_, _, _, rfl, rfl, rfl, rfl⟩, Do.asBool (Do.eqi rfl rfl) (decide_eq_true rfl)⟩⟩, .inr ⟨_, rfl, rfl, .inl ⟨rfl, Do.pickT rfl rfl⟩⟩, .inr ⟨_, rfl, rfl, .inl ⟨rfl, Do.move rfl⟩⟩, .inr ⟨_, rfl, rfl, .inl ⟨⟨_, _, _, rfl, rfl, rfl, rfl⟩, Do.move rfl⟩⟩, .inr ⟨_, rfl, rfl, .inl ⟨⟨_, _, _, rfl, rfl, rfl, rfl⟩, Do.move rfl⟩⟩, .inr ⟨_, rfl, rfl, .inl ⟨⟨_, _, _, rfl, rfl, rfl, rfl⟩, Do.asBool (Do.eqi rfl rfl) (decide_eq_true rfl)⟩⟩, .inr ⟨_, rfl, rfl, .inl ⟨rfl, Do.pickT rfl rfl⟩⟩, .inr ⟨_, rfl, rfl, .inl ⟨rfl, Do.move rfl⟩⟩, .inr ⟨_, rfl, rfl, .inl ⟨⟨_, _, _, rfl, rfl, rfl, rfl⟩, Do.loadN (cs := [str m, str t, .int .i64 minor, .slice A4 fs.length C5]) tf_agg35 rfl rfl (cellsOwn 0 0 0 rfl rfl rfl)⟩⟩, .inr ⟨_, rfl, rfl, .inl ⟨⟨_, _, _, rfl, rfl, rfl, rfl⟩, Do.call tf_body54 rfl (keep_ok (m := m) (t := t) (minor := minor) (fs := fs) (o8.rd (i := 1) rfl) hfl hb hb4 T)⟩⟩, .inr ⟨_, rfl, rfl, .inl ⟨⟨_, _, _, rfl, rfl, rfl, rfl⟩, Do.loadN (cs := [str m, str t, .int .i64 minor, .slice A fs.length C]) tf_agg35 rfl rfl (cellsOwn 2 0 0 rfl rfl rfl)⟩⟩, .inr ⟨_, rfl, rfl, .inl ⟨⟨_, _, _, rfl, rfl, rfl, rfl⟩, Do.call tf_body55 rfl (rkeep_ok (m := m) (t := t) (minor := minor) (fs := fs) (Rd.skip 3 h) hfl hb hb4)⟩⟩, .inr ⟨_, rfl, rfl, .inl ⟨⟨_, _, _, rfl, rfl, rfl, rfl⟩, Do.asBool (Do.eqb Tryz.underlying4 rfl rfl) (beq_self_eq_true _)⟩⟩, .inr ⟨_, rfl, rfl, .inl ⟨rfl, Do.pickT rfl rfl⟩⟩, .inr ⟨_, rfl, rfl, .inl ⟨rfl, Do.move rfl⟩⟩, .inr ⟨_, rfl, rfl, .inl ⟨⟨_, _, _, rfl, rfl, rfl, rfl⟩, Do.loadN (cs := [str m, str t, .int .i64 minor, .slice A4 fs.length C5]) tf_agg35 rfl rfl (cellsOwn 0 0 0 rfl rfl rfl)⟩⟩, .inr ⟨_, rfl, rfl, .inl ⟨⟨_, _, _, rfl, rfl, rfl, rfl⟩, Do.loadN (cs := [str m, str t, .int .i64 minor, .slice A fs.length C]) tf_agg35 rfl rfl (cellsOwn 2 0 0 rfl rfl rfl)⟩⟩, .inr ⟨_, rfl, rfl, .inl ⟨⟨_, _, _, rfl, rfl, rfl, rfl⟩, Do.asBool (Do.call tf_body37 rfl (samehead_ok (m := m) (t := t) (minor := minor) (m2 := m) (t2 := t) (minor2 := minor) (fs := fs) (gs := fs) (o8.rd (i := 1) rfl) (Rd.skip 3 h))) (decide_eq_true rfl)⟩⟩, .inr ⟨_, rfl, rfl, .inl ⟨rfl, Do.pickT rfl rfl⟩⟩, .inr ⟨_, rfl, rfl, .inl ⟨rfl, Do.move rfl⟩⟩, .inr ⟨_, rfl, rfl, .inl ⟨⟨_, _, _, rfl, rfl, rfl, rfl⟩, Do.call tf_body31 rfl (awake_ok T)⟩⟩, .inr ⟨_, rfl, rfl, .inl ⟨rfl, Do.pickT rfl rfl⟩⟩, .inr ⟨_, rfl, rfl, .inl ⟨rfl, Do.assign rfl⟩⟩, trivial⟩, by kernel_rfl, ?_⟩
      refine At.mono (E' := [(4, .bool true)]) ⟨rfl, trivial⟩ ?_
      refine At.pick (H' := H) [] 3 rfl rfl ?_
      exact At.ret Tryz.func10 rfl rfl (⟨rfl, rfl⟩)

end Go.Proofs.YtlfkoimkojbghaaGreatDoor
