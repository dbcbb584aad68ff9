/- RespReads: the walk. -/
import Derived.Test.YtlfkoimkojbghaaGreatDoorTD3
import Derived.Test.YtlfkoimkojbghaaGreatDoorTB4
namespace Go.Proofs.YtlfkoimkojbghaaGreatDoor
set_option linter.unusedVariables false
set_option linter.unusedSimpArgs false
set_option maxRecDepth 100000

theorem readF_le {b : List UInt8} {a : Int} : (∀ f ∈ (readF b a).1.fs, f.1.length ≤ b.length ∧ f.2.length ≤ b.length) ∧ (readF b a).1.body.length ≤ b.length := by
  have hz : (∀ f ∈ RespV.zero.fs, f.1.length ≤ b.length ∧ f.2.length ≤ b.length) ∧ RespV.zero.body.length ≤ b.length := ⟨fun f hf => absurd hf (by simp [RespV.zero]), by simp [RespV.zero]⟩
  unfold readF
  split
  · exact hz
  · split
    · exact hz
    · rename_i r hr
      split
      · have h1 := rparse_le hr
        have h2 : (b.drop a.toNat).length ≤ b.length := by rw [List.length_drop]; omega
        exact ⟨fun f hf => by have := h1.1 f hf; omega, by dsimp only; omega⟩
      · exact hz
theorem readF_ok {b : List UInt8} {a : Int} (h : (readF b a).2.2 = 0) : 0 ≤ a ∧ a ≤ (b.length : Int) ∧ okR (readF b a).1 = true ∧ respB (readF b a).1 <+: b.drop a.toNat ∧ (readF b a).2.1 = a + ((respB (readF b a).1).length : Int) ∧ a.toNat + (respB (readF b a).1).length ≤ b.length := by
  by_cases h0 : a < 0 ∨ (b.length : Int) < a
  · rw [read_range h0] at h; cases h
  · by_cases h1 : ∃ r, okR r = true ∧ respB r <+: b.drop a.toNat
    · obtain ⟨r, h1, h2⟩ := h1
      rw [read_yes h0 h1 h2]
      have := h2.length_le
      rw [List.length_drop] at this
      exact ⟨by omega, by omega, h1, h2, rfl, by dsimp only; omega⟩
    · rw [read_no h0 (fun r h2 h3 => h1 ⟨r, h2, h3⟩)] at h; cases h
theorem readF_bad {b : List UInt8} {a : Int} (h : ¬ (readF b a).2.2 = 0) : (readF b a).1 = RespV.zero ∧ (readF b a).2.1 = 0 := by
  by_cases h0 : a < 0 ∨ (b.length : Int) < a
  · rw [read_range h0]; exact ⟨rfl, rfl⟩
  · by_cases h1 : ∃ r, okR r = true ∧ respB r <+: b.drop a.toNat
    · obtain ⟨r, h1, h2⟩ := h1
      rw [read_yes h0 h1 h2] at h; exact absurd rfl h
    · rw [read_no h0 (fun r h2 h3 => h1 ⟨r, h2, h3⟩)]; exact ⟨rfl, rfl⟩

set_option maxHeartbeats 400000 in
theorem respreads_ok {w0 : World} {base : Nat} {H : List Seg} {A : Option Addr} {C : Nat} {b : List UInt8} (h : Rd tyB w0 base H A C b) (T : Tabs w0 base) (ET : ErrTab w0 base) (T10 : Tab10 w0 base) (a : Int) :
    SCalls Tryz.prog 5 [.slice A b.length C, .int .i64 a] w0 base (H) (fun v H' => v = .bool true ∧ H' = H) := by
  have hle0 := h.le
  have hcap0 := h.cap
  refine SCalls.of_walk (n := 58) Tryz.func5 rfl rfl rfl fun cs => ?_
  refine At.seq ?_
  refine At.region ?_
  refine AtL.assign (.inl rfl) rfl rfl ?_
  refine AtL.done ?_
  refine At.seq ?_
  refine At.seq ?_
  refine At.region ?_
  refine AtL.move (.inl rfl) rfl rfl ?_
  refine AtL.lenL Tryz.underlying22 (.inl rfl) rfl rfl ?_
  refine AtL.gtr (.inl rfl) rfl rfl rfl ?_
  refine AtL.done ?_
  refine At.cond rfl ?_ ?_
  · intro hc1
    have hc1 : 9000 < (b.length : Int) := of_decide_eq_true hc1
    refine At.seq ?_
    refine At.region ?_
    refine AtL.call tf_body38 (.inl rfl) rfl rfl (awake15_ok T10) ?_
    rintro _ _ ⟨rfl, hHq⟩
    obtain rfl := hHq.symm
    refine AtL.assign (.inl rfl) rfl rfl ?_
    refine AtL.done ?_
    exact At.ret Tryz.func5 rfl rfl (⟨rfl, rfl⟩)
  · intro hc1
    have hc1 : ¬ (9000 < (b.length : Int)) := of_decide_eq_false hc1
    refine At.skip ?_
    refine At.seq ?_
    refine At.region ?_
    refine AtL.move (.inl rfl) rfl rfl ?_
    refine AtL.call tf_body22 (.inl rfl) rfl rfl (lent_ok (l := b) h (by omega)) ?_
    rintro _ _ ⟨A1, s2, o3, rfl, rfl⟩
    refine AtL.assign (.inl rfl) rfl rfl ?_
    refine AtL.done ?_
    refine At.seq ?_
    refine At.region ?_
    refine AtL.move (.inl rfl) rfl rfl ?_
    refine AtL.move (.inl rfl) rfl rfl ?_
    refine AtL.call tf_body39 (.inl rfl) rfl rfl (read15_ok (b := b) a (OwnR.rd o3 (i := 0) rfl) (by omega) T ET T10) ?_
    rintro _ _ ⟨R14, hR15, ⟨A4, C5, l6, s7, o8⟩, ⟨A9, C10, l11, s12, o13⟩, hx16, hx17, rfl, rfl⟩
    have hR14 : R14 = (readF b a).1 := hR15
    obtain rfl : R14.fs = l6 := hx16.symm
    obtain rfl : R14.body = l11 := hx17.symm
    have hRl := (readF_le (b := b) (a := a))
    rw [← hR14] at hRl
    refine AtL.move (.inl rfl) rfl rfl ?_
    refine AtL.extract (.inl rfl) rfl rfl rfl ?_
    refine AtL.extract (.inl rfl) rfl rfl rfl ?_
    refine AtL.extract (.inl rfl) rfl rfl rfl ?_
    refine AtL.alloc tf_zero42 (cs := #[.int .i64 0, .slice none 0 0, .slice none 0 0, .bool false]) rfl (.inl rfl) rfl ?_
    intro b18
    refine AtL.store (H' := [(b18, .cells #[.int .i64 R14.st, .slice A4 R14.fs.length C5, .slice A9 R14.body.length C10, .bool R14.keep] 42 (0, 0))] :: s7 :: s12 :: s2 :: H) 0 0 tf_sz42 (.inl rfl) rfl rfl rfl rfl rfl rfl rfl rfl rfl ?_
    refine AtL.assign (.inl rfl) rfl rfl ?_
    refine AtL.assign (.inl rfl) rfl rfl ?_
    refine AtL.done ?_
    refine At.seq ?_
    refine At.region ?_
    refine AtL.move (.inl rfl) rfl rfl ?_
    refine AtL.move (.inl rfl) rfl rfl ?_
    refine AtL.call tf_body40 (.inl rfl) rfl rfl (rread15_ok (b := b) a (Rd.skip 4 h) (by omega) ET T10) ?_
    rintro _ _ ⟨R29, hR30, ⟨A19, C20, l21, s22, o23⟩, ⟨A24, C25, l26, s27, o28⟩, hx31, hx32, rfl, rfl⟩
    obtain rfl : R14 = R29 := hR14.trans hR30.symm
    obtain rfl : R14.fs = l21 := hx31.symm
    obtain rfl : R14.body = l26 := hx32.symm
    have hRl := (readF_le (b := b) (a := a))
    rw [← hR14] at hRl
    refine AtL.move (.inl rfl) rfl rfl ?_
    refine AtL.extract (.inl rfl) rfl rfl rfl ?_
    refine AtL.extract (.inl rfl) rfl rfl rfl ?_
    refine AtL.extract (.inl rfl) rfl rfl rfl ?_
    refine AtL.alloc tf_zero42 (cs := #[.int .i64 0, .slice none 0 0, .slice none 0 0, .bool false]) rfl (.inl rfl) rfl ?_
    intro b33
    refine AtL.store (H' := [(b33, .cells #[.int .i64 R14.st, .slice A19 R14.fs.length C20, .slice A24 R14.body.length C25, .bool R14.keep] 42 (0, 0))] :: s22 :: s27 :: [(b18, .cells #[.int .i64 R14.st, .slice A4 R14.fs.length C5, .slice A9 R14.body.length C10, .bool R14.keep] 42 (0, 0))] :: s7 :: s12 :: s2 :: H) 0 0 tf_sz42 (.inl rfl) rfl rfl rfl rfl rfl rfl rfl rfl rfl ?_
    refine AtL.assign (.inl rfl) rfl rfl ?_
    refine AtL.assign (.inl rfl) rfl rfl ?_
    refine AtL.done ?_
    refine At.seq ?_
    refine At.region ?_
    refine AtL.move (.inl rfl) rfl rfl ?_
    refine AtL.move (.inl rfl) rfl rfl ?_
    refine AtL.eqi (.inl rfl) rfl rfl rfl ?_
    refine AtL.move (.inl rfl) rfl rfl ?_
    refine AtL.join 4 (E' := [(40, .bool (decide (((readF b a).2.2 : Int) = ((readF b a).2.2)))), (0, .slice A b.length C), (5, .slice A1 b.length (b.length + 3)), (6, .pointer (some ⟨b18, 0, none⟩)), (9, .pointer (some ⟨b33, 0, none⟩))]) (H' := [(b33, .cells #[.int .i64 R14.st, .slice A19 R14.fs.length C20, .slice A24 R14.body.length C25, .bool R14.keep] 42 (0, 0))] :: s22 :: s27 :: [(b18, .cells #[.int .i64 R14.st, .slice A4 R14.fs.length C5, .slice A9 R14.body.length C10, .bool R14.keep] 42 (0, 0))] :: s7 :: s12 :: s2 :: H) (fun J => ?_) ?_
    · refine AtL.split (t := 36) rfl ?_ ?_
      · intro hs36
        have hs36 : ((readF b a).2.1 : Int) = ((readF b a).2.1) := of_decide_eq_true hs36
        refine AtL.move (.inr ⟨_, _, _, rfl, rfl, rfl, rfl⟩) rfl rfl ?_
        refine AtL.move (.inr ⟨_, _, _, rfl, rfl, rfl, rfl⟩) rfl rfl ?_
        refine AtL.eqi (.inr ⟨_, _, _, rfl, rfl, rfl, rfl⟩) rfl rfl rfl ?_
        refine AtL.pickT (.inl rfl) rfl rfl rfl ?_
        exact J _ (by exact ⟨(boolIs (by clear J; first | (simp [hs36]; done) | (simp_all; done) | grind)), rfl, rfl, rfl, rfl, trivial⟩)
      · intro hs36
        exact Bool.noConfusion (hs36.symm.trans (decide_eq_true rfl))
    · skip
      refine AtL.move (.inl rfl) rfl rfl ?_
      refine AtL.join 4 (E' := [(45, .bool (decide ((⟨R14.st, R14.fs, R14.body, R14.keep⟩ : RespV) = ⟨R14.st, R14.fs, R14.body, R14.keep⟩))), (0, .slice A b.length C), (5, .slice A1 b.length (b.length + 3)), (6, .pointer (some ⟨b18, 0, none⟩))]) (H' := [(b33, .cells #[.int .i64 R14.st, .slice A19 R14.fs.length C20, .slice A24 R14.body.length C25, .bool R14.keep] 42 (0, 0))] :: s22 :: s27 :: [(b18, .cells #[.int .i64 R14.st, .slice A4 R14.fs.length C5, .slice A9 R14.body.length C10, .bool R14.keep] 42 (0, 0))] :: s7 :: s12 :: s2 :: H) (fun J => ?_) ?_
      · refine AtL.split (t := 41) rfl ?_ ?_
        · intro hs41
          have hs41 : ((readF b a).2.2 : Int) = ((readF b a).2.2) := of_decide_eq_true hs41
          refine AtL.loadN (cs := [.int .i64 R14.st, .slice A4 R14.fs.length C5, .slice A9 R14.body.length C10, .bool R14.keep]) tf_agg42 (.inr ⟨_, _, _, rfl, rfl, rfl, rfl⟩) rfl rfl rfl (cellsOwn 3 0 0 rfl rfl rfl) ?_
          refine AtL.loadN (cs := [.int .i64 R14.st, .slice A19 R14.fs.length C20, .slice A24 R14.body.length C25, .bool R14.keep]) tf_agg42 (.inr ⟨_, _, _, rfl, rfl, rfl, rfl⟩) rfl rfl rfl (cellsOwn 0 0 0 rfl rfl rfl) ?_
          refine AtL.call tf_body41 (.inr ⟨_, _, _, rfl, rfl, rfl, rfl⟩) rfl rfl (sameresp_ok (st := R14.st) (fs := R14.fs) (b := R14.body) (kp := R14.keep) (st2 := R14.st) (gs := R14.fs) (c := R14.body) (kp2 := R14.keep) (o8.rd (i := 4) rfl) (o13.rd (i := 5) rfl) (o23.rd (i := 1) rfl) (o28.rd (i := 2) rfl)) ?_
          rintro _ _ ⟨rfl, rfl⟩
          refine AtL.pickT (.inl rfl) rfl rfl rfl ?_
          exact J _ (by exact ⟨(boolIs (by clear J; first | (simp [hs41]; done) | (simp_all; done) | grind)), rfl, rfl, rfl, trivial⟩)
        · intro hs41
          exact Bool.noConfusion (hs41.symm.trans (decide_eq_true rfl))
      · skip
        refine AtL.assign (.inl rfl) rfl rfl ?_
        refine AtL.done ?_
        refine At.seq ?_
        refine At.region ?_
        refine AtL.fieldAddrB tf_fo42_2 (.inl rfl) rfl rfl rfl ?_
        refine AtL.load tf_flat22 (.inl rfl) rfl rfl (Cell.own 3 0 rfl rfl rfl) ?_
        refine AtL.pick (H' := s12 :: [(b33, .cells #[.int .i64 R14.st, .slice A19 R14.fs.length C20, .slice A24 R14.body.length C25, .bool R14.keep] 42 (0, 0))] :: s22 :: s27 :: [(b18, .cells #[.int .i64 R14.st, .slice A4 R14.fs.length C5, .slice A9 R14.body.length C10, .bool R14.keep] 42 (0, 0))] :: s7 :: s2 :: H) [5, 0, 1, 2, 3, 4, 6] 7 rfl rfl ?_
        refine AtL.call tf_body28 (.inl rfl) rfl rfl (over_own o13) ?_
        rintro _ _ ⟨s34, rfl, rfl⟩
        refine AtL.done ?_
        refine At.seq ?_
        refine At.region ?_
        refine AtL.move (.inl rfl) rfl rfl ?_
        refine AtL.move (.inl rfl) rfl rfl ?_
        refine AtL.join 4 (E' := [(54, .bool true)]) (H' := s34 :: [(b33, .cells #[.int .i64 R14.st, .slice A19 R14.fs.length C20, .slice A24 R14.body.length C25, .bool R14.keep] 42 (0, 0))] :: s22 :: s27 :: [(b18, .cells #[.int .i64 R14.st, .slice A4 R14.fs.length C5, .slice A9 R14.body.length C10, .bool R14.keep] 42 (0, 0))] :: s7 :: s2 :: H) (fun J => ?_) ?_
        · refine AtL.split (t := 50) rfl ?_ ?_
          · intro hs50
            have hs50 : (⟨R14.st, R14.fs, R14.body, R14.keep⟩ : RespV) = ⟨R14.st, R14.fs, R14.body, R14.keep⟩ := of_decide_eq_true hs50
            refine AtL.move (.inr ⟨_, _, _, rfl, rfl, rfl, rfl⟩) rfl rfl ?_
            refine AtL.move (.inr ⟨_, _, _, rfl, rfl, rfl, rfl⟩) rfl rfl ?_
            refine AtL.pick (H' := s2 :: s34 :: [(b33, .cells #[.int .i64 R14.st, .slice A19 R14.fs.length C20, .slice A24 R14.body.length C25, .bool R14.keep] 42 (0, 0))] :: s22 :: s27 :: [(b18, .cells #[.int .i64 R14.st, .slice A4 R14.fs.length C5, .slice A9 R14.body.length C10, .bool R14.keep] 42 (0, 0))] :: s7 :: H) [6, 0, 1, 2, 3, 4, 5] 7 rfl rfl ?_
            refine AtL.call tf_body29 (.inr ⟨_, _, _, rfl, rfl, rfl, rfl⟩) rfl rfl (kept_ok o3 (Rd.skip 6 h) (by omega)) ?_
            rintro _ _ ⟨s35, rfl, rfl⟩
            refine AtL.pickT (.inl rfl) rfl rfl rfl ?_
            refine AtL.pick (H' := s34 :: [(b33, .cells #[.int .i64 R14.st, .slice A19 R14.fs.length C20, .slice A24 R14.body.length C25, .bool R14.keep] 42 (0, 0))] :: s22 :: s27 :: [(b18, .cells #[.int .i64 R14.st, .slice A4 R14.fs.length C5, .slice A9 R14.body.length C10, .bool R14.keep] 42 (0, 0))] :: s7 :: s2 :: H) [2, 3, 4, 5, 6, 7, 1] 8 rfl rfl ?_
            exact J _ (by exact ⟨rfl, trivial⟩)
          · intro hs50
            have hs50 : ¬ ((⟨R14.st, R14.fs, R14.body, R14.keep⟩ : RespV) = ⟨R14.st, R14.fs, R14.body, R14.keep⟩) := of_decide_eq_false hs50
            exfalso; revert hs50; simp
        · skip
          refine AtL.move (.inl rfl) rfl rfl ?_
          refine AtL.call tf_body38 (.inr ⟨_, _, _, rfl, rfl, rfl, rfl⟩) rfl rfl (awake15_ok T10) ?_
          rintro _ _ ⟨rfl, rfl⟩
          refine AtL.pickT (.inl rfl) rfl rfl rfl ?_
          refine AtL.assign (.inl rfl) rfl rfl ?_
          refine AtL.done ?_
          refine At.pick (H' := H) [] 7 rfl rfl ?_
          exact At.ret Tryz.func5 rfl rfl (⟨rfl, rfl⟩)

end Go.Proofs.YtlfkoimkojbghaaGreatDoor
