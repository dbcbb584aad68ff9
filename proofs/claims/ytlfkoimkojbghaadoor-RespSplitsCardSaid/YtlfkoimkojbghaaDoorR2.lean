/- The answer beside heads: Check, Write. -/
import Derived.Test.YtlfkoimkojbghaaDoorR1
namespace Go.Proofs.YtlfkoimkojbghaaDoor
set_option linter.unusedVariables false
set_option linter.unusedSimpArgs false
set_option maxRecDepth 100000

set_option maxHeartbeats 400000 in
theorem fmti_ok {w0 : World} {base : Nat} {H : List Seg} (n : Nat) (hn : n < 10) :
    SCalls Tryd.prog 130 [.int .i64 (n : Int), .int .i64 10] w0 base (H) (fun v H' => v = str [UInt8.ofNat (48 + n)] ∧ H' = H) := by
  refine SCalls.of_walk (n := 54) Tryd.func130 rfl rfl rfl fun cs => ?_
  refine At.seq ?_
  refine At.region ?_
  refine AtL.assign (.inl rfl) rfl rfl ?_
  refine AtL.done ?_
  refine At.seq ?_
  refine At.seq ?_
  refine At.region ?_
  refine AtL.move (.inl rfl) rfl rfl ?_
  refine AtL.eqi (.inl rfl) rfl rfl rfl ?_
  refine AtL.done ?_
  refine At.condT rfl ?_
  refine At.seq ?_
  refine At.seq ?_
  refine At.region ?_
  refine AtL.move (.inl rfl) rfl rfl ?_
  refine AtL.leq (.inl rfl) rfl rfl rfl ?_
  refine AtL.move (.inl rfl) rfl rfl ?_
  refine AtL.join 3 (E' := [(17, .bool (decide ((0 ≤ (n : Int)) ∧ ((n : Int) < 100)))), (0, .int .i64 (n : Int))]) (H' := H) (fun J => ?_) ?_
  · refine AtL.split (t := 14) rfl ?_ ?_
    · intro hs14
      have hs14 : 0 ≤ (n : Int) := of_decide_eq_true hs14
      refine AtL.move (.inr ⟨_, _, _, rfl, rfl, rfl, rfl⟩) rfl rfl ?_
      refine AtL.lss (.inr ⟨_, _, _, rfl, rfl, rfl, rfl⟩) rfl rfl rfl ?_
      refine AtL.pickT (.inl rfl) rfl rfl rfl ?_
      exact J _ (by exact ⟨(boolIs (by clear J; first | (simp [hs14]; done) | (simp_all; done) | grind)), rfl, trivial⟩)
    · intro hs14
      have hs14 : ¬ (0 ≤ (n : Int)) := of_decide_eq_false hs14
      refine AtL.skipped rfl rfl rfl rfl rfl rfl ?_
      refine AtL.skipped rfl rfl rfl rfl rfl rfl ?_
      refine AtL.pickF (.inl rfl) rfl rfl rfl ?_
      exact J _ (by exact ⟨(boolIs (by clear J; first | (simp [hs14]; done) | (simp_all; done) | grind)), rfl, trivial⟩)
  · skip
    refine AtL.done ?_
    refine At.condIs true rfl (decide_eq_true (by omega)) ?_
    refine At.seq ?_
    refine At.region ?_
    refine AtL.move (.inl rfl) rfl rfl ?_
    refine AtL.call tf_body152 (.inl rfl) rfl rfl (small_ok n (by omega)) ?_
    rintro _ _ ⟨rfl, hHq⟩
    obtain rfl := hHq.symm
    refine AtL.assign (.inl rfl) rfl rfl ?_
    refine AtL.done ?_
    exact At.ret Tryd.func130 rfl rfl (⟨rfl, rfl⟩)

set_option maxHeartbeats 400000 in
theorem itoai_ok {w0 : World} {base : Nat} {H : List Seg} (n : Nat) (hn : n < 10) :
    SCalls Tryd.prog 101 [.int .i64 (n : Int)] w0 base (H) (fun v H' => v = str [UInt8.ofNat (48 + n)] ∧ H' = H) := by
  refine SCalls.of_walk (n := 5) Tryd.func101 rfl rfl rfl fun cs => ?_
  refine At.seq ?_
  refine At.region ?_
  refine AtL.assign (.inl rfl) rfl rfl ?_
  refine AtL.done ?_
  refine At.seq ?_
  refine At.region ?_
  refine AtL.move (.inl rfl) rfl rfl ?_
  refine AtL.call tf_body130 (.inl rfl) rfl rfl (fmti_ok n (by omega)) ?_
  rintro _ _ ⟨rfl, hHq⟩
  obtain rfl := hHq.symm
  refine AtL.assign (.inl rfl) rfl rfl ?_
  refine AtL.done ?_
  exact At.ret Tryd.func101 rfl rfl (⟨rfl, rfl⟩)

set_option maxHeartbeats 400000 in
theorem itoa_ok {w0 : World} {base : Nat} {H : List Seg} (n : Nat) (hn : n < 10) :
    SCalls Tryd.prog 66 [.int .i64 (n : Int)] w0 base (H) (fun v H' => v = str [UInt8.ofNat (48 + n)] ∧ H' = H) := by
  refine SCalls.of_walk (n := 5) Tryd.func66 rfl rfl rfl fun cs => ?_
  refine At.seq ?_
  refine At.region ?_
  refine AtL.assign (.inl rfl) rfl rfl ?_
  refine AtL.done ?_
  refine At.seq ?_
  refine At.region ?_
  refine AtL.move (.inl rfl) rfl rfl ?_
  refine AtL.call tf_body101 (.inl rfl) rfl rfl (itoai_ok n (by omega)) ?_
  rintro _ _ ⟨rfl, hHq⟩
  obtain rfl := hHq.symm
  refine AtL.assign (.inl rfl) rfl rfl ?_
  refine AtL.done ?_
  exact At.ret Tryd.func66 rfl rfl (⟨rfl, rfl⟩)

set_option maxHeartbeats 400000 in
theorem rfield_ok {w0 : World} {base : Nat} {H : List Seg} {m t : List UInt8} {minor : Int} {A : Option Addr} {C : Nat} {fs : List (List UInt8 × List UInt8)} (h : Rd tyField w0 base H A C fs) {nm : List UInt8} (hnm : nm.length ≤ 140737488355000) (hfl : fs.length ≤ 1000) (hb : ∀ f ∈ fs, f.1.length ≤ 140737488355000 ∧ f.2.length ≤ 140737488355000) :
    SCalls Tryd.prog 54 [.agg #[str m, str t, .int .i64 minor, .slice A fs.length C], str nm] w0 base (H) (fun v H' => v = .tuple #[str (fieldF fs nm).1, int ((fieldF fs nm).2 : Int)] ∧ H' = H) := by
  have hle0 := h.le
  have hcap0 := h.cap
  refine SCalls.of_walk (n := 36) Tryd.func54 rfl rfl rfl fun cs => ?_
  refine At.seq ?_
  refine At.region ?_
  refine AtL.box (cs := #[str m, str t, .int .i64 minor, .slice A fs.length C]) rfl (.inl rfl) rfl rfl ?_
  intro b1
  refine AtL.assign (.inl rfl) rfl rfl ?_
  refine AtL.assign (.inl rfl) rfl rfl ?_
  refine AtL.done ?_
  refine At.seq ?_
  refine At.region ?_
  refine AtL.assign (.inl rfl) rfl rfl ?_
  refine AtL.assign (.inl rfl) rfl rfl ?_
  refine AtL.done ?_
  refine At.seq ?_
  refine At.seq ?_
  refine At.region ?_
  refine AtL.assign (.inl rfl) rfl rfl ?_
  refine AtL.done ?_
  refine At.block ?_
  refine At.loop3 (fun (k : Nat) (val : List UInt8) (n : Nat) => [(1, str nm), (2, .pointer (some ⟨b1, 0, none⟩)), (6, str val), (7, .int .i64 (n : Int)), (8, .int .i64 (k : Int))]) (fun (k : Nat) (val : List UInt8) (n : Nat) => [(b1, .cells #[str m, str t, .int .i64 minor, .slice A fs.length C] 24 (0, 0))] :: H) (fun (k : Nat) (val : List UInt8) (n : Nat) => k ≤ fs.length ∧ val = (allF (fs.take k) nm).headD [] ∧ n = (allF (fs.take k) nm).length) (fun (k : Nat) (val : List UInt8) (n : Nat) => fs.length - k) 0 [] 0 (⟨Nat.zero_le _, rfl, rfl⟩) ⟨rfl, rfl, rfl, rfl, rfl, trivial⟩ rfl ?_
  rintro k val n ⟨hk, hv, hn⟩ ihL1
  have hnl := allF_len (fs.take k) nm
  rw [← hn, List.length_take] at hnl
  refine At.seq ?_
  refine At.seq ?_
  refine At.region ?_
  refine AtL.move (.inl rfl) rfl rfl ?_
  refine AtL.fieldAddrB tf_fo24_3 (.inl rfl) rfl rfl rfl ?_
  refine AtL.load tf_flat22 (.inl rfl) rfl rfl (Cell.own 0 0 rfl rfl rfl) ?_
  refine AtL.lenL Tryd.underlying22 (.inl rfl) rfl rfl ?_
  refine AtL.lss (.inl rfl) rfl rfl rfl ?_
  refine AtL.done ?_
  refine At.cond rfl ?_ ?_
  · intro hc1
    have hc1 : (k : Int) < (fs.length : Int) := of_decide_eq_true hc1
    have hbk := hb _ (getD_mem (l := fs) (i := k) (d := (([], []) : List UInt8 × List UInt8)) (by omega))
    refine At.skip ?_
    refine At.seq ?_
    refine At.block ?_
    refine At.seq ?_
    refine At.region ?_
    refine AtL.fieldAddrB tf_fo24_3 (.inl rfl) rfl rfl rfl ?_
    refine AtL.load tf_flat22 (.inl rfl) rfl rfl (Cell.own 0 0 rfl rfl rfl) ?_
    refine AtL.move (.inl rfl) rfl rfl ?_
    refine AtL.indexL k (Rd.skip 1 h) Tryd.underlying22 tf_sz67 (.inl rfl) rfl rfl rfl rfl (by omega) ?_
    refine AtL.fieldAddr tf_fo67_0 (.inl rfl) rfl rfl ?_
    refine AtL.load (v := str ((fs.getD k (([], []) : List UInt8 × List UInt8)).1)) tf_flat9 (.inl rfl) rfl rfl (Rd.cell_at (Rd.skip 1 h) (j := 0) (getD_some (([], []) : List UInt8 × List UInt8) (by omega)) rfl) ?_
    refine AtL.move (.inl rfl) rfl rfl ?_
    refine AtL.call tf_body55 (.inl rfl) rfl rfl (rsame_ok (a := (fs.getD k (([], []) : List UInt8 × List UInt8)).1) (b := nm) (by omega) hnm) ?_
    rintro _ _ ⟨rfl, rfl⟩
    refine AtL.done ?_
    refine At.cond rfl ?_ ?_
    · intro hc2
      have hc2 : lowerF ((fs.getD k (([], []) : List UInt8 × List UInt8)).1) = lowerF nm := of_decide_eq_true hc2
      refine At.seq ?_
      refine At.seq ?_
      refine At.region ?_
      refine AtL.move (.inl rfl) rfl rfl ?_
      refine AtL.eqi (.inl rfl) rfl rfl rfl ?_
      refine AtL.done ?_
      refine At.cond rfl ?_ ?_
      · intro hc3
        have hc3 : (n : Int) = 0 := of_decide_eq_true hc3
        refine At.region ?_
        refine AtL.fieldAddrB tf_fo24_3 (.inl rfl) rfl rfl rfl ?_
        refine AtL.load tf_flat22 (.inl rfl) rfl rfl (Cell.own 0 0 rfl rfl rfl) ?_
        refine AtL.move (.inl rfl) rfl rfl ?_
        refine AtL.indexL k (Rd.skip 1 h) Tryd.underlying22 tf_sz67 (.inl rfl) rfl rfl rfl rfl (by omega) ?_
        refine AtL.fieldAddr tf_fo67_1 (.inl rfl) rfl rfl ?_
        refine AtL.load (v := str ((fs.getD k (([], []) : List UInt8 × List UInt8)).2)) tf_flat9 (.inl rfl) rfl rfl (Rd.cell_at (Rd.skip 1 h) (j := 1) (getD_some (([], []) : List UInt8 × List UInt8) (by omega)) rfl) ?_
        refine AtL.assign (.inl rfl) rfl rfl ?_
        refine AtL.done ?_
        refine At.region ?_
        refine AtL.move (.inl rfl) rfl rfl ?_
        refine AtL.add (z := (n : Int) + 1) (.inl rfl) rfl rfl rfl (w64 (by omega) (by omega)) ?_
        refine AtL.assign (.inl rfl) rfl rfl ?_
        refine AtL.done ?_
        refine At.inBlock ?_
        refine At.region ?_
        refine AtL.move (.inl rfl) rfl rfl ?_
        refine AtL.add (z := (k : Int) + 1) (.inl rfl) rfl rfl rfl (w64 (by omega) (by omega)) ?_
        refine AtL.assign (.inl rfl) rfl rfl ?_
        refine AtL.done ?_
        refine ihL1 (k + 1) ((fs.getD k (([], []) : List UInt8 × List UInt8)).2) (n + 1) (⟨by omega, by rw [allF_snoc _ _ (by omega), if_pos hc2]; have h0 : allF (fs.take k) nm = [] := List.eq_nil_of_length_eq_zero (by omega); rw [h0]; rfl, by rw [allF_snoc _ _ (by omega), if_pos hc2]; simp; omega⟩) (by omega) _ ?_
        exact ⟨rfl, rfl, (by first | rfl | exact slLen (by simp []) | exact intEq (by omega) | exact intEq (by simp []) | exact slLen (by simp []; omega)), (by first | rfl | exact slLen (by simp []) | exact intEq (by omega) | exact intEq (by simp []) | exact slLen (by simp []; omega)), (by first | rfl | exact slLen (by simp []) | exact intEq (by omega) | exact intEq (by simp []) | exact slLen (by simp []; omega)), trivial⟩
      · intro hc3
        have hc3 : ¬ ((n : Int) = 0) := of_decide_eq_false hc3
        refine At.skip ?_
        refine At.region ?_
        refine AtL.move (.inl rfl) rfl rfl ?_
        refine AtL.add (z := (n : Int) + 1) (.inl rfl) rfl rfl rfl (w64 (by omega) (by omega)) ?_
        refine AtL.assign (.inl rfl) rfl rfl ?_
        refine AtL.done ?_
        refine At.inBlock ?_
        refine At.region ?_
        refine AtL.move (.inl rfl) rfl rfl ?_
        refine AtL.add (z := (k : Int) + 1) (.inl rfl) rfl rfl rfl (w64 (by omega) (by omega)) ?_
        refine AtL.assign (.inl rfl) rfl rfl ?_
        refine AtL.done ?_
        refine ihL1 (k + 1) val (n + 1) (⟨by omega, by rw [allF_snoc _ _ (by omega), if_pos hc2]; rw [hv]; cases hq : allF (fs.take k) nm with | nil => rw [hq] at hn; simp at hn; omega | cons a r => rfl, by rw [allF_snoc _ _ (by omega), if_pos hc2]; simp; omega⟩) (by omega) _ ?_
        exact ⟨rfl, rfl, (by first | rfl | exact slLen (by simp []) | exact intEq (by omega) | exact intEq (by simp []) | exact slLen (by simp []; omega)), (by first | rfl | exact slLen (by simp []) | exact intEq (by omega) | exact intEq (by simp []) | exact slLen (by simp []; omega)), (by first | rfl | exact slLen (by simp []) | exact intEq (by omega) | exact intEq (by simp []) | exact slLen (by simp []; omega)), trivial⟩
    · intro hc2
      have hc2 : ¬ (lowerF ((fs.getD k (([], []) : List UInt8 × List UInt8)).1) = lowerF nm) := of_decide_eq_false hc2
      refine At.skip ?_
      refine At.inBlock ?_
      refine At.region ?_
      refine AtL.move (.inl rfl) rfl rfl ?_
      refine AtL.add (z := (k : Int) + 1) (.inl rfl) rfl rfl rfl (w64 (by omega) (by omega)) ?_
      refine AtL.assign (.inl rfl) rfl rfl ?_
      refine AtL.done ?_
      refine ihL1 (k + 1) val n (⟨by omega, by rw [allF_snoc _ _ (by omega), if_neg hc2, List.append_nil]; exact hv, by rw [allF_snoc _ _ (by omega), if_neg hc2, List.append_nil]; exact hn⟩) (by omega) _ ?_
      exact ⟨rfl, rfl, (by first | rfl | exact slLen (by simp []) | exact intEq (by omega) | exact intEq (by simp []) | exact slLen (by simp []; omega)), (by first | rfl | exact slLen (by simp []) | exact intEq (by omega) | exact intEq (by simp []) | exact slLen (by simp []; omega)), (by first | rfl | exact slLen (by simp []) | exact intEq (by omega) | exact intEq (by simp []) | exact slLen (by simp []; omega)), trivial⟩
  · intro hc1
    have hc1 : ¬ ((k : Int) < (fs.length : Int)) := of_decide_eq_false hc1
    refine At.exit rfl ?_
    refine At.seq ?_
    refine At.region ?_
    refine AtL.move (.inl rfl) rfl rfl ?_
    refine AtL.move (.inl rfl) rfl rfl ?_
    refine AtL.assign (.inl rfl) rfl rfl ?_
    refine AtL.assign (.inl rfl) rfl rfl ?_
    refine AtL.done ?_
    refine At.pick (H' := H) [] 1 rfl rfl ?_
    exact At.ret Tryd.func54 rfl rfl (⟨by rw [List.take_of_length_le (show fs.length ≤ k by omega)] at hv hn; rw [fieldF, hv, hn]; rfl, rfl⟩)

set_option maxHeartbeats 400000 in
theorem rhosts_ok {w0 : World} {base : Nat} {H : List Seg} {m t : List UInt8} {minor : Int} {A : Option Addr} {C : Nat} {fs : List (List UInt8 × List UInt8)} (h : Rd tyField w0 base H A C fs) (hfl : fs.length ≤ 1000) (hb : ∀ f ∈ fs, f.1.length ≤ 140737488355000 ∧ f.2.length ≤ 140737488355000) :
    SCalls Tryd.prog 86 [.agg #[str m, str t, .int .i64 minor, .slice A fs.length C]] w0 base (H) (fun v H' => v = .bool (hostsF fs minor) ∧ H' = H) := by
  refine SCalls.of_walk (n := 21) Tryd.func86 rfl rfl rfl fun cs => ?_
  refine At.seq ?_
  refine At.region ?_
  refine AtL.box (cs := #[str m, str t, .int .i64 minor, .slice A fs.length C]) rfl (.inl rfl) rfl rfl ?_
  intro b1
  refine AtL.assign (.inl rfl) rfl rfl ?_
  refine AtL.done ?_
  refine At.seq ?_
  refine At.region ?_
  refine AtL.loadN (cs := [str m, str t, .int .i64 minor, .slice A fs.length C]) tf_agg24 (.inl rfl) rfl rfl rfl (cellsOwn 0 0 0 rfl rfl rfl) ?_
  refine AtL.call tf_body54 (.inl rfl) rfl rfl (rfield_ok (m := m) (t := t) (minor := minor) (fs := fs) (Rd.skip 1 h) (nm := [104, 111, 115, 116]) (by first | omega | decide) hfl hb) ?_
  rintro _ _ ⟨rfl, rfl⟩
  refine AtL.move (.inl rfl) rfl rfl ?_
  refine AtL.extract (.inl rfl) rfl rfl rfl ?_
  refine AtL.extract (.inl rfl) rfl rfl rfl ?_
  refine AtL.assign (.inl rfl) rfl rfl ?_
  refine AtL.assign (.inl rfl) rfl rfl ?_
  refine AtL.done ?_
  refine At.seq ?_
  refine At.region ?_
  refine AtL.move (.inl rfl) rfl rfl ?_
  refine AtL.eqi (.inl rfl) rfl rfl rfl ?_
  refine AtL.move (.inl rfl) rfl rfl ?_
  refine AtL.join 8 (E' := [(20, .bool (decide ((((fieldF fs [104, 111, 115, 116]).2 : Int) = 1) ∨ ((((fieldF fs [104, 111, 115, 116]).2 : Int) = 0) ∧ ((minor : Int) = 0)))))]) (H' := [(b1, .cells #[str m, str t, .int .i64 minor, .slice A fs.length C] 24 (0, 0))] :: H) (fun J => ?_) ?_
  · refine AtL.split (t := 12) rfl ?_ ?_
    · intro hs12
      have hs12 : ((fieldF fs [104, 111, 115, 116]).2 : Int) = 1 := of_decide_eq_true hs12
      refine AtL.skipped rfl rfl rfl rfl rfl rfl ?_
      refine AtL.skipped rfl rfl rfl rfl rfl rfl ?_
      refine AtL.skipped rfl rfl rfl rfl rfl rfl ?_
      refine AtL.skippedU rfl rfl rfl rfl rfl ?_
      refine AtL.skippedU rfl rfl rfl rfl rfl ?_
      refine AtL.skippedU rfl rfl rfl rfl rfl ?_
      refine AtL.skipped rfl rfl rfl rfl rfl rfl ?_
      refine AtL.pickT (.inl rfl) rfl rfl rfl ?_
      exact J _ (by exact ⟨(boolIs (by clear J; first | (simp [hs12]; done) | (simp_all; done) | grind)), trivial⟩)
    · intro hs12
      have hs12 : ¬ (((fieldF fs [104, 111, 115, 116]).2 : Int) = 1) := of_decide_eq_false hs12
      refine AtL.move (.inr ⟨_, _, _, rfl, rfl, rfl, rfl⟩) rfl rfl ?_
      refine AtL.eqi (.inr ⟨_, _, _, rfl, rfl, rfl, rfl⟩) rfl rfl rfl ?_
      refine AtL.move (.inr ⟨_, _, _, rfl, rfl, rfl, rfl⟩) rfl rfl ?_
      refine AtL.join 4 (E' := [(19, .bool (decide ((((fieldF fs [104, 111, 115, 116]).2 : Int) = 0) ∧ ((minor : Int) = 0)))), (12, .bool false)]) (H' := [(b1, .cells #[str m, str t, .int .i64 minor, .slice A fs.length C] 24 (0, 0))] :: H) (fun J => ?_) ?_
      · refine AtL.split (t := 15) rfl ?_ ?_
        · intro hs15
          have hs15 : ((fieldF fs [104, 111, 115, 116]).2 : Int) = 0 := of_decide_eq_true hs15
          refine AtL.fieldAddrB tf_fo24_2 (.inr ⟨_, _, _, rfl, rfl, rfl, rfl⟩) rfl rfl rfl ?_
          refine AtL.load tf_flat3 (.inr ⟨_, _, _, rfl, rfl, rfl, rfl⟩) rfl rfl (Cell.own 0 0 rfl rfl rfl) ?_
          refine AtL.eqi (.inr ⟨_, _, _, rfl, rfl, rfl, rfl⟩) rfl rfl rfl ?_
          refine AtL.pickT (.inr ⟨_, _, _, rfl, rfl, rfl, rfl⟩) rfl rfl rfl ?_
          exact J _ (by exact ⟨(boolIs (by clear J; first | (simp [hs15]; done) | (simp_all; done) | grind)), rfl, trivial⟩)
        · intro hs15
          have hs15 : ¬ (((fieldF fs [104, 111, 115, 116]).2 : Int) = 0) := of_decide_eq_false hs15
          refine AtL.skipped rfl rfl rfl rfl rfl rfl ?_
          refine AtL.skipped rfl rfl rfl rfl rfl rfl ?_
          refine AtL.skipped rfl rfl rfl rfl rfl rfl ?_
          refine AtL.pickF (.inr ⟨_, _, _, rfl, rfl, rfl, rfl⟩) rfl rfl rfl ?_
          exact J _ (by exact ⟨(boolIs (by clear J; first | (simp [hs15]; done) | (simp_all; done) | grind)), rfl, trivial⟩)
      · skip
        refine AtL.pickF (.inl rfl) rfl rfl rfl ?_
        exact J _ (by exact ⟨(boolIs (by clear J; first | (simp [hs12]; done) | (simp_all; done) | grind)), trivial⟩)
  · skip
    refine AtL.assign (.inl rfl) rfl rfl ?_
    refine AtL.done ?_
    refine At.pick (H' := H) [] 1 rfl rfl ?_
    exact At.ret Tryd.func86 rfl rfl (⟨congrArg Value.bool (by rw [hostsF]; exact decide_eq_decide.2 (by show _ ↔ ((fieldF fs [104, 111, 115, 116]).2 = 1 ∨ ((fieldF fs [104, 111, 115, 116]).2 = 0 ∧ minor = 0)); omega)), rfl⟩)

end Go.Proofs.YtlfkoimkojbghaaDoor
