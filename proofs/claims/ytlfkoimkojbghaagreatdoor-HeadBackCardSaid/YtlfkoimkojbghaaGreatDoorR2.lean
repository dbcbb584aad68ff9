/- The answer beside heads: Check, Write. -/
import Derived.Test.YtlfkoimkojbghaaGreatDoorR1
namespace Go.Proofs.YtlfkoimkojbghaaGreatDoor
set_option linter.unusedVariables false
set_option linter.unusedSimpArgs false
set_option maxRecDepth 100000

set_option maxHeartbeats 400000 in
theorem fmti_ok {w0 : World} {base : Nat} {H : List Seg} (n : Nat) (hn : n < 10) :
    SCalls Tryz.prog 165 [.int .i64 (n : Int), .int .i64 10] w0 base (H) (fun v H' => v = str [UInt8.ofNat (48 + n)] ∧ H' = H) := by
  refine SCalls.of_walk (n := 54) Tryz.func165 rfl rfl rfl fun cs => ?_
  refine At.seq ?_
  refine At.region ?_
  refine AtL.assign (.inl rfl) rfl rfl ?_
  refine AtL.done ?_
  refine At.seq ?_
  refine At.seq ?_
  refine At.region ?_
  refine AtL.move (.inl rfl) rfl rfl ?_
  refine AtL.eqi (.inl rfl) rfl rfl rfl ?_
  refine AtL.done ?_
  refine At.condT rfl ?_
  refine At.seq ?_
  refine At.seq ?_
  refine At.region ?_
  refine AtL.move (.inl rfl) rfl rfl ?_
  refine AtL.leq (.inl rfl) rfl rfl rfl ?_
  refine AtL.move (.inl rfl) rfl rfl ?_
  refine AtL.join 3 (E' := [(17, .bool (decide ((0 ≤ (n : Int)) ∧ ((n : Int) < 100)))), (0, .int .i64 (n : Int))]) (H' := H) (fun J => ?_) ?_
  · refine AtL.split (t := 14) rfl ?_ ?_
    · intro hs14
      have hs14 : 0 ≤ (n : Int) := of_decide_eq_true hs14
      refine AtL.move (.inr ⟨_, _, _, rfl, rfl, rfl, rfl⟩) rfl rfl ?_
      refine AtL.lss (.inr ⟨_, _, _, rfl, rfl, rfl, rfl⟩) rfl rfl rfl ?_
      refine AtL.pickT (.inl rfl) rfl rfl rfl ?_
      exact J _ (by exact ⟨(boolIs (by clear J; first | (simp [hs14]; done) | (simp_all; done) | grind)), rfl, trivial⟩)
    · intro hs14
      have hs14 : ¬ (0 ≤ (n : Int)) := of_decide_eq_false hs14
      refine AtL.skipped rfl rfl rfl rfl rfl rfl ?_
      refine AtL.skipped rfl rfl rfl rfl rfl rfl ?_
      refine AtL.pickF (.inl rfl) rfl rfl rfl ?_
      exact J _ (by exact ⟨(boolIs (by clear J; first | (simp [hs14]; done) | (simp_all; done) | grind)), rfl, trivial⟩)
  · skip
    refine AtL.done ?_
    refine At.condIs true rfl (decide_eq_true (by omega)) ?_
    refine At.seq ?_
    refine At.region ?_
    refine AtL.move (.inl rfl) rfl rfl ?_
    refine AtL.call tf_body197 (.inl rfl) rfl rfl (small_ok n (by omega)) ?_
    rintro _ _ ⟨rfl, hHq⟩
    obtain rfl := hHq.symm
    refine AtL.assign (.inl rfl) rfl rfl ?_
    refine AtL.done ?_
    exact At.ret Tryz.func165 rfl rfl (⟨rfl, rfl⟩)

set_option maxHeartbeats 400000 in
theorem itoai_ok {w0 : World} {base : Nat} {H : List Seg} (n : Nat) (hn : n < 10) :
    SCalls Tryz.prog 122 [.int .i64 (n : Int)] w0 base (H) (fun v H' => v = str [UInt8.ofNat (48 + n)] ∧ H' = H) := by
  refine SCalls.of_walk (n := 5) Tryz.func122 rfl rfl rfl fun cs => ?_
  refine At.seq ?_
  refine At.region ?_
  refine AtL.assign (.inl rfl) rfl rfl ?_
  refine AtL.done ?_
  refine At.seq ?_
  refine At.region ?_
  refine AtL.move (.inl rfl) rfl rfl ?_
  refine AtL.call tf_body165 (.inl rfl) rfl rfl (fmti_ok n (by omega)) ?_
  rintro _ _ ⟨rfl, hHq⟩
  obtain rfl := hHq.symm
  refine AtL.assign (.inl rfl) rfl rfl ?_
  refine AtL.done ?_
  exact At.ret Tryz.func122 rfl rfl (⟨rfl, rfl⟩)

set_option maxHeartbeats 400000 in
theorem itoa_ok {w0 : World} {base : Nat} {H : List Seg} (n : Nat) (hn : n < 10) :
    SCalls Tryz.prog 77 [.int .i64 (n : Int)] w0 base (H) (fun v H' => v = str [UInt8.ofNat (48 + n)] ∧ H' = H) := by
  refine SCalls.of_walk (n := 5) Tryz.func77 rfl rfl rfl fun cs => ?_
  refine At.seq ?_
  refine At.region ?_
  refine AtL.assign (.inl rfl) rfl rfl ?_
  refine AtL.done ?_
  refine At.seq ?_
  refine At.region ?_
  refine AtL.move (.inl rfl) rfl rfl ?_
  refine AtL.call tf_body122 (.inl rfl) rfl rfl (itoai_ok n (by omega)) ?_
  rintro _ _ ⟨rfl, hHq⟩
  obtain rfl := hHq.symm
  refine AtL.assign (.inl rfl) rfl rfl ?_
  refine AtL.done ?_
  exact At.ret Tryz.func77 rfl rfl (⟨rfl, rfl⟩)

set_option maxHeartbeats 400000 in
theorem rfield_ok {w0 : World} {base : Nat} {H : List Seg} {m t : List UInt8} {minor : Int} {A : Option Addr} {C : Nat} {fs : List (List UInt8 × List UInt8)} (h : Rd tyField w0 base H A C fs) {nm : List UInt8} (hnm : nm.length ≤ 140737488355000) (hfl : fs.length ≤ 1000) (hb : ∀ f ∈ fs, f.1.length ≤ 140737488355000 ∧ f.2.length ≤ 140737488355000) :
    SCalls Tryz.prog 52 [.agg #[str m, str t, .int .i64 minor, .slice A fs.length C], str nm] w0 base (H) (fun v H' => v = .tuple #[str (fieldF fs nm).1, int ((fieldF fs nm).2 : Int)] ∧ H' = H) := by
  have hle0 := h.le
  have hcap0 := h.cap
  refine SCalls.of_walk (n := 36) Tryz.func52 rfl rfl rfl fun cs => ?_
  refine At.seq ?_
  refine At.region ?_
  refine AtL.box (cs := #[str m, str t, .int .i64 minor, .slice A fs.length C]) rfl (.inl rfl) rfl rfl ?_
  intro b1
  refine AtL.assign (.inl rfl) rfl rfl ?_
  refine AtL.assign (.inl rfl) rfl rfl ?_
  refine AtL.done ?_
  refine At.seq ?_
  refine At.region ?_
  refine AtL.assign (.inl rfl) rfl rfl ?_
  refine AtL.assign (.inl rfl) rfl rfl ?_
  refine AtL.done ?_
  refine At.seq ?_
  refine At.seq ?_
  refine At.region ?_
  refine AtL.assign (.inl rfl) rfl rfl ?_
  refine AtL.done ?_
  refine At.block ?_
  refine At.loop3 (fun (k : Nat) (val : List UInt8) (n : Nat) => [(1, str nm), (2, .pointer (some ⟨b1, 0, none⟩)), (6, str val), (7, .int .i64 (n : Int)), (8, .int .i64 (k : Int))]) (fun (k : Nat) (val : List UInt8) (n : Nat) => [(b1, .cells #[str m, str t, .int .i64 minor, .slice A fs.length C] 35 (0, 0))] :: H) (fun (k : Nat) (val : List UInt8) (n : Nat) => k ≤ fs.length ∧ val = (allF (fs.take k) nm).headD [] ∧ n = (allF (fs.take k) nm).length) (fun (k : Nat) (val : List UInt8) (n : Nat) => fs.length - k) 0 [] 0 (⟨Nat.zero_le _, rfl, rfl⟩) ⟨rfl, rfl, rfl, rfl, rfl, trivial⟩ rfl ?_
  rintro k val n ⟨hk, hv, hn⟩ ihL1
  have hnl := allF_len (fs.take k) nm
  rw [← hn, List.length_take] at hnl
  refine At.seq ?_
  refine At.seq ?_
  refine At.region ?_
  refine AtL.move (.inl rfl) rfl rfl ?_
  refine AtL.fieldAddrB tf_fo35_3 (.inl rfl) rfl rfl rfl ?_
  refine AtL.load tf_flat33 (.inl rfl) rfl rfl (Cell.own 0 0 rfl rfl rfl) ?_
  refine AtL.lenL Tryz.underlying33 (.inl rfl) rfl rfl ?_
  refine AtL.lss (.inl rfl) rfl rfl rfl ?_
  refine AtL.done ?_
  refine At.cond rfl ?_ ?_
  · intro hc1
    have hc1 : (k : Int) < (fs.length : Int) := of_decide_eq_true hc1
    have hbk := hb _ (getD_mem (l := fs) (i := k) (d := (([], []) : List UInt8 × List UInt8)) (by omega))
    refine At.skip ?_
    refine At.seq ?_
    refine At.block ?_
    refine At.seq ?_
    refine At.region ?_
    refine AtL.fieldAddrB tf_fo35_3 (.inl rfl) rfl rfl rfl ?_
    refine AtL.load tf_flat33 (.inl rfl) rfl rfl (Cell.own 0 0 rfl rfl rfl) ?_
    refine AtL.move (.inl rfl) rfl rfl ?_
    refine AtL.indexL k (Rd.skip 1 h) Tryz.underlying33 tf_sz52 (.inl rfl) rfl rfl rfl rfl (by omega) ?_
    refine AtL.fieldAddr tf_fo52_0 (.inl rfl) rfl rfl ?_
    refine AtL.load (v := str ((fs.getD k (([], []) : List UInt8 × List UInt8)).1)) tf_flat9 (.inl rfl) rfl rfl (Rd.cell_at (Rd.skip 1 h) (j := 0) (getD_some (([], []) : List UInt8 × List UInt8) (by omega)) rfl) ?_
    refine AtL.move (.inl rfl) rfl rfl ?_
    refine AtL.call tf_body101 (.inl rfl) rfl rfl (rsame_ok (a := (fs.getD k (([], []) : List UInt8 × List UInt8)).1) (b := nm) (by omega) hnm) ?_
    rintro _ _ ⟨rfl, rfl⟩
    refine AtL.done ?_
    refine At.cond rfl ?_ ?_
    · intro hc2
      have hc2 : lowerF ((fs.getD k (([], []) : List UInt8 × List UInt8)).1) = lowerF nm := of_decide_eq_true hc2
      refine At.seq ?_
      refine At.seq ?_
      refine At.region ?_
      refine AtL.move (.inl rfl) rfl rfl ?_
      refine AtL.eqi (.inl rfl) rfl rfl rfl ?_
      refine AtL.done ?_
      refine At.cond rfl ?_ ?_
      · intro hc3
        have hc3 : (n : Int) = 0 := of_decide_eq_true hc3
        refine At.region ?_
        refine AtL.fieldAddrB tf_fo35_3 (.inl rfl) rfl rfl rfl ?_
        refine AtL.load tf_flat33 (.inl rfl) rfl rfl (Cell.own 0 0 rfl rfl rfl) ?_
        refine AtL.move (.inl rfl) rfl rfl ?_
        refine AtL.indexL k (Rd.skip 1 h) Tryz.underlying33 tf_sz52 (.inl rfl) rfl rfl rfl rfl (by omega) ?_
        refine AtL.fieldAddr tf_fo52_1 (.inl rfl) rfl rfl ?_
        refine AtL.load (v := str ((fs.getD k (([], []) : List UInt8 × List UInt8)).2)) tf_flat9 (.inl rfl) rfl rfl (Rd.cell_at (Rd.skip 1 h) (j := 1) (getD_some (([], []) : List UInt8 × List UInt8) (by omega)) rfl) ?_
        refine AtL.assign (.inl rfl) rfl rfl ?_
        refine AtL.done ?_
        refine At.region ?_
        refine AtL.move (.inl rfl) rfl rfl ?_
        refine AtL.add (z := (n : Int) + 1) (.inl rfl) rfl rfl rfl (w64 (by omega) (by omega)) ?_
        refine AtL.assign (.inl rfl) rfl rfl ?_
        refine AtL.done ?_
        refine At.inBlock ?_
        refine At.region ?_
        refine AtL.move (.inl rfl) rfl rfl ?_
        refine AtL.add (z := (k : Int) + 1) (.inl rfl) rfl rfl rfl (w64 (by omega) (by omega)) ?_
        refine AtL.assign (.inl rfl) rfl rfl ?_
        refine AtL.done ?_
        refine ihL1 (k + 1) ((fs.getD k (([], []) : List UInt8 × List UInt8)).2) (n + 1) (⟨by omega, by rw [allF_snoc _ _ (by omega), if_pos hc2]; have h0 : allF (fs.take k) nm = [] := List.eq_nil_of_length_eq_zero (by omega); rw [h0]; rfl, by rw [allF_snoc _ _ (by omega), if_pos hc2]; simp; omega⟩) (by omega) _ ?_
        exact ⟨rfl, rfl, (by first | rfl | exact slLen (by simp []) | exact intEq (by omega) | exact intEq (by simp []) | exact slLen (by simp []; omega)), (by first | rfl | exact slLen (by simp []) | exact intEq (by omega) | exact intEq (by simp []) | exact slLen (by simp []; omega)), (by first | rfl | exact slLen (by simp []) | exact intEq (by omega) | exact intEq (by simp []) | exact slLen (by simp []; omega)), trivial⟩
      · intro hc3
        have hc3 : ¬ ((n : Int) = 0) := of_decide_eq_false hc3
        refine At.skip ?_
        refine At.region ?_
        refine AtL.move (.inl rfl) rfl rfl ?_
        refine AtL.add (z := (n : Int) + 1) (.inl rfl) rfl rfl rfl (w64 (by omega) (by omega)) ?_
        refine AtL.assign (.inl rfl) rfl rfl ?_
        refine AtL.done ?_
        refine At.inBlock ?_
        refine At.region ?_
        refine AtL.move (.inl rfl) rfl rfl ?_
        refine AtL.add (z := (k : Int) + 1) (.inl rfl) rfl rfl rfl (w64 (by omega) (by omega)) ?_
        refine AtL.assign (.inl rfl) rfl rfl ?_
        refine AtL.done ?_
        refine ihL1 (k + 1) val (n + 1) (⟨by omega, by rw [allF_snoc _ _ (by omega), if_pos hc2]; rw [hv]; cases hq : allF (fs.take k) nm with | nil => rw [hq] at hn; simp at hn; omega | cons a r => rfl, by rw [allF_snoc _ _ (by omega), if_pos hc2]; simp; omega⟩) (by omega) _ ?_
        exact ⟨rfl, rfl, (by first | rfl | exact slLen (by simp []) | exact intEq (by omega) | exact intEq (by simp []) | exact slLen (by simp []; omega)), (by first | rfl | exact slLen (by simp []) | exact intEq (by omega) | exact intEq (by simp []) | exact slLen (by simp []; omega)), (by first | rfl | exact slLen (by simp []) | exact intEq (by omega) | exact intEq (by simp []) | exact slLen (by simp []; omega)), trivial⟩
    · intro hc2
      have hc2 : ¬ (lowerF ((fs.getD k (([], []) : List UInt8 × List UInt8)).1) = lowerF nm) := of_decide_eq_false hc2
      refine At.skip ?_
      refine At.inBlock ?_
      refine At.region ?_
      refine AtL.move (.inl rfl) rfl rfl ?_
      refine AtL.add (z := (k : Int) + 1) (.inl rfl) rfl rfl rfl (w64 (by omega) (by omega)) ?_
      refine AtL.assign (.inl rfl) rfl rfl ?_
      refine AtL.done ?_
      refine ihL1 (k + 1) val n (⟨by omega, by rw [allF_snoc _ _ (by omega), if_neg hc2, List.append_nil]; exact hv, by rw [allF_snoc _ _ (by omega), if_neg hc2, List.append_nil]; exact hn⟩) (by omega) _ ?_
      exact ⟨rfl, rfl, (by first | rfl | exact slLen (by simp []) | exact intEq (by omega) | exact intEq (by simp []) | exact slLen (by simp []; omega)), (by first | rfl | exact slLen (by simp []) | exact intEq (by omega) | exact intEq (by simp []) | exact slLen (by simp []; omega)), (by first | rfl | exact slLen (by simp []) | exact intEq (by omega) | exact intEq (by simp []) | exact slLen (by simp []; omega)), trivial⟩
  · intro hc1
    have hc1 : ¬ ((k : Int) < (fs.length : Int)) := of_decide_eq_false hc1
    refine At.exit rfl ?_
    refine At.seq ?_
    refine At.region ?_
    refine AtL.move (.inl rfl) rfl rfl ?_
    refine AtL.move (.inl rfl) rfl rfl ?_
    refine AtL.assign (.inl rfl) rfl rfl ?_
    refine AtL.assign (.inl rfl) rfl rfl ?_
    refine AtL.done ?_
    refine At.pick (H' := H) [] 1 rfl rfl ?_
    exact At.ret Tryz.func52 rfl rfl (⟨by rw [List.take_of_length_le (show fs.length ≤ k by omega)] at hv hn; rw [fieldF, hv, hn]; rfl, rfl⟩)

set_option maxHeartbeats 400000 in
theorem rhosts_ok {w0 : World} {base : Nat} {H : List Seg} {m t : List UInt8} {minor : Int} {A : Option Addr} {C : Nat} {fs : List (List UInt8 × List UInt8)} (h : Rd tyField w0 base H A C fs) (hfl : fs.length ≤ 1000) (hb : ∀ f ∈ fs, f.1.length ≤ 140737488355000 ∧ f.2.length ≤ 140737488355000) :
    SCalls Tryz.prog 88 [.agg #[str m, str t, .int .i64 minor, .slice A fs.length C]] w0 base (H) (fun v H' => v = .bool (hostsF fs minor) ∧ H' = H) := by
  refine SCalls.of_walk (n := 21) Tryz.func88 rfl rfl rfl fun cs => ?_
  refine At.seq ?_
  refine At.region ?_
  refine AtL.box (cs := #[str m, str t, .int .i64 minor, .slice A fs.length C]) rfl (.inl rfl) rfl rfl ?_
  intro b1
  refine AtL.assign (.inl rfl) rfl rfl ?_
  refine AtL.done ?_
  refine At.seq ?_
  refine At.region ?_
  refine AtL.loadN (cs := [str m, str t, .int .i64 minor, .slice A fs.length C]) tf_agg35 (.inl rfl) rfl rfl rfl (cellsOwn 0 0 0 rfl rfl rfl) ?_
  refine AtL.call tf_body52 (.inl rfl) rfl rfl (rfield_ok (m := m) (t := t) (minor := minor) (fs := fs) (Rd.skip 1 h) (nm := [104, 111, 115, 116]) (by first | omega | decide) hfl hb) ?_
  rintro _ _ ⟨rfl, rfl⟩
  refine AtL.move (.inl rfl) rfl rfl ?_
  refine AtL.extract (.inl rfl) rfl rfl rfl ?_
  refine AtL.extract (.inl rfl) rfl rfl rfl ?_
  refine AtL.assign (.inl rfl) rfl rfl ?_
  refine AtL.assign (.inl rfl) rfl rfl ?_
  refine AtL.done ?_
  refine At.seq ?_
  refine At.region ?_
  refine AtL.move (.inl rfl) rfl rfl ?_
  refine AtL.eqi (.inl rfl) rfl rfl rfl ?_
  refine AtL.move (.inl rfl) rfl rfl ?_
  refine AtL.join 8 (E' := [(20, .bool (decide ((((fieldF fs [104, 111, 115, 116]).2 : Int) = 1) ∨ ((((fieldF fs [104, 111, 115, 116]).2 : Int) = 0) ∧ ((minor : Int) = 0)))))]) (H' := [(b1, .cells #[str m, str t, .int .i64 minor, .slice A fs.length C] 35 (0, 0))] :: H) (fun J => ?_) ?_
  · refine AtL.split (t := 12) rfl ?_ ?_
    · intro hs12
      have hs12 : ((fieldF fs [104, 111, 115, 116]).2 : Int) = 1 := of_decide_eq_true hs12
      refine AtL.skipped rfl rfl rfl rfl rfl rfl ?_
      refine AtL.skipped rfl rfl rfl rfl rfl rfl ?_
      refine AtL.skipped rfl rfl rfl rfl rfl rfl ?_
      refine AtL.skippedU rfl rfl rfl rfl rfl ?_
      refine AtL.skippedU rfl rfl rfl rfl rfl ?_
      refine AtL.skippedU rfl rfl rfl rfl rfl ?_
      refine AtL.skipped rfl rfl rfl rfl rfl rfl ?_
      refine AtL.pickT (.inl rfl) rfl rfl rfl ?_
      exact J _ (by exact ⟨(boolIs (by clear J; first | (simp [hs12]; done) | (simp_all; done) | grind)), trivial⟩)
    · intro hs12
      have hs12 : ¬ (((fieldF fs [104, 111, 115, 116]).2 : Int) = 1) := of_decide_eq_false hs12
      refine AtL.move (.inr ⟨_, _, _, rfl, rfl, rfl, rfl⟩) rfl rfl ?_
      refine AtL.eqi (.inr ⟨_, _, _, rfl, rfl, rfl, rfl⟩) rfl rfl rfl ?_
      refine AtL.move (.inr ⟨_, _, _, rfl, rfl, rfl, rfl⟩) rfl rfl ?_
      refine AtL.join 4 (E' := [(19, .bool (decide ((((fieldF fs [104, 111, 115, 116]).2 : Int) = 0) ∧ ((minor : Int) = 0)))), (12, .bool false)]) (H' := [(b1, .cells #[str m, str t, .int .i64 minor, .slice A fs.length C] 35 (0, 0))] :: H) (fun J => ?_) ?_
      · refine AtL.split (t := 15) rfl ?_ ?_
        · intro hs15
          have hs15 : ((fieldF fs [104, 111, 115, 116]).2 : Int) = 0 := of_decide_eq_true hs15
          refine AtL.fieldAddrB tf_fo35_2 (.inr ⟨_, _, _, rfl, rfl, rfl, rfl⟩) rfl rfl rfl ?_
          refine AtL.load tf_flat3 (.inr ⟨_, _, _, rfl, rfl, rfl, rfl⟩) rfl rfl (Cell.own 0 0 rfl rfl rfl) ?_
          refine AtL.eqi (.inr ⟨_, _, _, rfl, rfl, rfl, rfl⟩) rfl rfl rfl ?_
          refine AtL.pickT (.inr ⟨_, _, _, rfl, rfl, rfl, rfl⟩) rfl rfl rfl ?_
          exact J _ (by exact ⟨(boolIs (by clear J; first | (simp [hs15]; done) | (simp_all; done) | grind)), rfl, trivial⟩)
        · intro hs15
          have hs15 : ¬ (((fieldF fs [104, 111, 115, 116]).2 : Int) = 0) := of_decide_eq_false hs15
          refine AtL.skipped rfl rfl rfl rfl rfl rfl ?_
          refine AtL.skipped rfl rfl rfl rfl rfl rfl ?_
          refine AtL.skipped rfl rfl rfl rfl rfl rfl ?_
          refine AtL.pickF (.inr ⟨_, _, _, rfl, rfl, rfl, rfl⟩) rfl rfl rfl ?_
          exact J _ (by exact ⟨(boolIs (by clear J; first | (simp [hs15]; done) | (simp_all; done) | grind)), rfl, trivial⟩)
      · skip
        refine AtL.pickF (.inl rfl) rfl rfl rfl ?_
        exact J _ (by exact ⟨(boolIs (by clear J; first | (simp [hs12]; done) | (simp_all; done) | grind)), trivial⟩)
  · skip
    refine AtL.assign (.inl rfl) rfl rfl ?_
    refine AtL.done ?_
    refine At.pick (H' := H) [] 1 rfl rfl ?_
    exact At.ret Tryz.func88 rfl rfl (⟨congrArg Value.bool (by rw [hostsF]; exact decide_eq_decide.2 (by show _ ↔ ((fieldF fs [104, 111, 115, 116]).2 = 1 ∨ ((fieldF fs [104, 111, 115, 116]).2 = 0 ∧ minor = 0)); omega)), rfl⟩)

set_option maxHeartbeats 400000 in
theorem rbytes_ok {w0 : World} {base : Nat} {H : List Seg} {m t : List UInt8} {A : Option Addr} {C : Nat} {fs : List (List UInt8 × List UInt8)} (h : Rd tyField w0 base H A C fs) (hfl : fs.length ≤ 1000) (htot : m.length + t.length + szF fs ≤ 140737488354000) (n : Nat) (hn : n < 10) :
    SCalls Tryz.prog 84 [.agg #[str m, str t, .int .i64 (n : Int), .slice A fs.length C]] w0 base (H) (fun v H' => ∃ x : Sl tyB 5, x.l = headB ⟨m, t, (n : Int), fs⟩ ∧ v = .slice x.A x.l.length x.C ∧ H' = x.s :: H) := by
  have hle0 := h.le
  have hcap0 := h.cap
  refine SCalls.of_walk (n := 44) Tryz.func84 rfl rfl rfl fun cs => ?_
  refine At.seq ?_
  refine At.region ?_
  refine AtL.box (cs := #[str m, str t, .int .i64 (n : Int), .slice A fs.length C]) rfl (.inl rfl) rfl rfl ?_
  intro b1
  refine AtL.assign (.inl rfl) rfl rfl ?_
  refine AtL.done ?_
  refine At.seq ?_
  refine At.draw (es := []) (pv := [(0, .pointer (some ⟨b1, 0, none⟩)), (1, str m), (2, str (m ++ [32])), (3, .pointer (some ⟨b1, 1, none⟩)), (4, str t), (5, str ((m ++ [32]) ++ t)), (6, str (((m ++ [32]) ++ t) ++ [32, 72, 84, 84, 80, 47, 49, 46])), (7, .pointer (some ⟨b1, 2, none⟩)), (8, .int .i64 (n : Int)), (9, str [UInt8.ofNat (48 + n)]), (10, str ((((m ++ [32]) ++ t) ++ [32, 72, 84, 84, 80, 47, 49, 46]) ++ [UInt8.ofNat (48 + n)])), (11, str (((((m ++ [32]) ++ t) ++ [32, 72, 84, 84, 80, 47, 49, 46]) ++ [UInt8.ofNat (48 + n)]) ++ [13, 10])), (12, str (((((m ++ [32]) ++ t) ++ [32, 72, 84, 84, 80, 47, 49, 46]) ++ [UInt8.ofNat (48 + n)]) ++ [13, 10]))]) tf_mixed (by kernel_rfl) (by kernel_rfl) (by kernel_rfl) ?_
  refine ⟨⟨.inr ⟨_, rfl, rfl, .inl ⟨rfl, Do.fieldAddrB tf_fo35_0 rfl rfl⟩⟩, .inr ⟨_, rfl, rfl, .inl ⟨rfl, Do.load tf_flat9 rfl (Cell.own 0 0 rfl rfl rfl)⟩⟩, .inr ⟨_, rfl, rfl, .inl ⟨rfl, Do.cat rfl rfl (by first | omega | (simp only [List.length_append, List.length_cons, List.length_nil]; omega) | (simp; omega))⟩⟩, .inr ⟨_, rfl, rfl, .inl ⟨rfl, Do.fieldAddrB tf_fo35_1 rfl rfl⟩⟩, .inr ⟨_, rfl, rfl, .inl ⟨rfl, Do.load tf_flat9 rfl (Cell.own 0 0 rfl rfl rfl)⟩⟩, .inr ⟨_, rfl, rfl, .inl ⟨rfl, Do.cat rfl rfl (by first | omega | (simp only [List.length_append, List.length_cons, List.length_nil]; omega) | (simp; omega))⟩⟩, .inr ⟨_, rfl, rfl, .inl ⟨rfl, Do.cat rfl rfl (by first | omega | (simp only [List.length_append, List.length_cons, List.length_nil]; omega) | (simp; omega))⟩⟩, .inr ⟨_, rfl, rfl, .inl ⟨rfl, Do.fieldAddrB tf_fo35_2 rfl rfl⟩⟩, .inr ⟨_, rfl, rfl, .inl ⟨rfl, Do.load tf_flat3 rfl (Cell.own 0 0 rfl rfl rfl)⟩⟩, .inr ⟨_, rfl, rfl, .inl ⟨rfl, Do.call tf_body77 rfl (itoa_ok n (by omega))⟩⟩, .inr ⟨_, rfl, rfl, .inl ⟨rfl, Do.cat rfl rfl (by first | omega | (simp only [List.length_append, List.length_cons, List.length_nil]; omega) | (simp; omega))⟩⟩, .inr ⟨_, rfl, rfl, .inl ⟨rfl, Do.cat rfl rfl (by first | omega | (simp only [List.length_append, List.length_cons, List.length_nil]; omega) | (simp; omega))⟩⟩, .inr ⟨_, rfl, rfl, .inl ⟨rfl, Do.assign rfl⟩⟩, trivial⟩, by kernel_rfl, ?_⟩
  refine At.mono (E' := [(1, .pointer (some ⟨b1, 0, none⟩)), (3, str (((((m ++ [32]) ++ t) ++ [32, 72, 84, 84, 80, 47, 49, 46]) ++ [UInt8.ofNat (48 + n)]) ++ [13, 10]))]) ⟨rfl, rfl, trivial⟩ ?_
  refine At.seq ?_
  refine At.seq ?_
  refine At.region ?_
  refine AtL.assign (.inl rfl) rfl rfl ?_
  refine AtL.done ?_
  refine At.block ?_
  refine At.loop2 (fun (k : Nat) (s : List UInt8) => [(1, .pointer (some ⟨b1, 0, none⟩)), (3, str s), (4, .int .i64 (k : Int))]) (fun (k : Nat) (s : List UInt8) => [(b1, .cells #[str m, str t, .int .i64 (n : Int), .slice A fs.length C] 35 (0, 0))] :: H) (fun (k : Nat) (s : List UInt8) => k ≤ fs.length ∧ s = lineB ⟨m, t, (n : Int), fs⟩ ++ [13, 10] ++ fieldsP (fs.take k)) (fun (k : Nat) (s : List UInt8) => fs.length - k) 0 (((((m ++ [32]) ++ t) ++ [32, 72, 84, 84, 80, 47, 49, 46]) ++ [UInt8.ofNat (48 + n)]) ++ [13, 10]) (⟨Nat.zero_le _, by simp [lineB, HTTP1, fieldsP]⟩) ⟨rfl, rfl, rfl, trivial⟩ rfl ?_
  rintro k s ⟨hk, hx⟩ ihL1
  have hpl := szF_take fs k
  have hxl : s.length = m.length + t.length + 12 + (fieldsP (fs.take k)).length := by rw [hx]; simp [lineB, HTTP1]; omega
  refine At.seq ?_
  refine At.seq ?_
  refine At.region ?_
  refine AtL.move (.inl rfl) rfl rfl ?_
  refine AtL.fieldAddrB tf_fo35_3 (.inl rfl) rfl rfl rfl ?_
  refine AtL.load tf_flat33 (.inl rfl) rfl rfl (Cell.own 0 0 rfl rfl rfl) ?_
  refine AtL.lenL Tryz.underlying33 (.inl rfl) rfl rfl ?_
  refine AtL.lss (.inl rfl) rfl rfl rfl ?_
  refine AtL.done ?_
  refine At.cond rfl ?_ ?_
  · intro hc1
    have hc1 : (k : Int) < (fs.length : Int) := of_decide_eq_true hc1
    have hbk := szF_step fs k (by omega)
    refine At.skip ?_
    refine At.seq ?_
    refine At.block ?_
    refine At.draw (es := []) (pv := [(0, str s), (1, .pointer (some ⟨b1, 3, none⟩)), (2, .slice A fs.length C), (3, .int .i64 (k : Int)), (4, .pointer (some (eaddr A (k * tyField.sz)))), (5, .pointer (some ((eaddr A (k * tyField.sz)).add 0))), (6, str ((fs.getD k (([], []) : List UInt8 × List UInt8)).1)), (7, str (s ++ ((fs.getD k (([], []) : List UInt8 × List UInt8)).1))), (8, str ((s ++ ((fs.getD k (([], []) : List UInt8 × List UInt8)).1)) ++ [58, 32])), (9, .pointer (some ⟨b1, 3, none⟩)), (10, .slice A fs.length C), (11, .int .i64 (k : Int)), (12, .pointer (some (eaddr A (k * tyField.sz)))), (13, .pointer (some ((eaddr A (k * tyField.sz)).add 1))), (14, str ((fs.getD k (([], []) : List UInt8 × List UInt8)).2)), (15, str (((s ++ ((fs.getD k (([], []) : List UInt8 × List UInt8)).1)) ++ [58, 32]) ++ ((fs.getD k (([], []) : List UInt8 × List UInt8)).2))), (16, str ((((s ++ ((fs.getD k (([], []) : List UInt8 × List UInt8)).1)) ++ [58, 32]) ++ ((fs.getD k (([], []) : List UInt8 × List UInt8)).2)) ++ [13, 10])), (17, str ((((s ++ ((fs.getD k (([], []) : List UInt8 × List UInt8)).1)) ++ [58, 32]) ++ ((fs.getD k (([], []) : List UInt8 × List UInt8)).2)) ++ [13, 10]))]) tf_mixed (by kernel_rfl) (by kernel_rfl) (by kernel_rfl) ?_
    refine ⟨⟨.inr ⟨_, rfl, rfl, .inl ⟨rfl, Do.move rfl⟩⟩, .inr ⟨_, rfl, rfl, .inl ⟨rfl, Do.fieldAddrB tf_fo35_3 rfl rfl⟩⟩, .inr ⟨_, rfl, rfl, .inl ⟨rfl, Do.load tf_flat33 rfl (Cell.own 0 0 rfl rfl rfl)⟩⟩, .inr ⟨_, rfl, rfl, .inl ⟨rfl, Do.move rfl⟩⟩, .inr ⟨_, rfl, rfl, .inl ⟨rfl, Do.indexL k (Rd.skip 1 h) Tryz.underlying33 tf_sz52 rfl rfl rfl (by omega)⟩⟩, .inr ⟨_, rfl, rfl, .inl ⟨rfl, Do.fieldAddr tf_fo52_0 rfl⟩⟩, .inr ⟨_, rfl, rfl, .inl ⟨rfl, Do.load (v := str ((fs.getD k (([], []) : List UInt8 × List UInt8)).1)) tf_flat9 rfl (Rd.cell_at (Rd.skip 1 h) (j := 0) (getD_some (([], []) : List UInt8 × List UInt8) (by omega)) rfl)⟩⟩, .inr ⟨_, rfl, rfl, .inl ⟨rfl, Do.cat rfl rfl (by first | omega | (simp only [List.length_append, List.length_cons, List.length_nil]; omega) | (simp; omega))⟩⟩, .inr ⟨_, rfl, rfl, .inl ⟨rfl, Do.cat rfl rfl (by first | omega | (simp only [List.length_append, List.length_cons, List.length_nil]; omega) | (simp; omega))⟩⟩, .inr ⟨_, rfl, rfl, .inl ⟨rfl, Do.fieldAddrB tf_fo35_3 rfl rfl⟩⟩, .inr ⟨_, rfl, rfl, .inl ⟨rfl, Do.load tf_flat33 rfl (Cell.own 0 0 rfl rfl rfl)⟩⟩, .inr ⟨_, rfl, rfl, .inl ⟨rfl, Do.move rfl⟩⟩, .inr ⟨_, rfl, rfl, .inl ⟨rfl, Do.indexL k (Rd.skip 1 h) Tryz.underlying33 tf_sz52 rfl rfl rfl (by omega)⟩⟩, .inr ⟨_, rfl, rfl, .inl ⟨rfl, Do.fieldAddr tf_fo52_1 rfl⟩⟩, .inr ⟨_, rfl, rfl, .inl ⟨rfl, Do.load (v := str ((fs.getD k (([], []) : List UInt8 × List UInt8)).2)) tf_flat9 rfl (Rd.cell_at (Rd.skip 1 h) (j := 1) (getD_some (([], []) : List UInt8 × List UInt8) (by omega)) rfl)⟩⟩, .inr ⟨_, rfl, rfl, .inl ⟨rfl, Do.cat rfl rfl (by first | omega | (simp only [List.length_append, List.length_cons, List.length_nil]; omega) | (simp; omega))⟩⟩, .inr ⟨_, rfl, rfl, .inl ⟨rfl, Do.cat rfl rfl (by first | omega | (simp only [List.length_append, List.length_cons, List.length_nil]; omega) | (simp; omega))⟩⟩, .inr ⟨_, rfl, rfl, .inl ⟨rfl, Do.assign rfl⟩⟩, trivial⟩, by kernel_rfl, ?_⟩
    refine At.mono (E' := [(1, .pointer (some ⟨b1, 0, none⟩)), (3, str ((((s ++ ((fs.getD k (([], []) : List UInt8 × List UInt8)).1)) ++ [58, 32]) ++ ((fs.getD k (([], []) : List UInt8 × List UInt8)).2)) ++ [13, 10])), (4, .int .i64 (k : Int))]) ⟨rfl, rfl, rfl, trivial⟩ ?_
    refine At.inBlock ?_
    refine At.region ?_
    refine AtL.move (.inl rfl) rfl rfl ?_
    refine AtL.add (z := (k : Int) + 1) (.inl rfl) rfl rfl rfl (w64 (by omega) (by omega)) ?_
    refine AtL.assign (.inl rfl) rfl rfl ?_
    refine AtL.done ?_
    refine ihL1 (k + 1) ((((s ++ ((fs.getD k (([], []) : List UInt8 × List UInt8)).1)) ++ [58, 32]) ++ ((fs.getD k (([], []) : List UInt8 × List UInt8)).2)) ++ [13, 10]) (⟨by omega, by rw [fieldsP_snoc _ _ (by omega), ← List.append_assoc, ← hx]; simp [fieldB]⟩) (by omega) _ ?_
    exact ⟨rfl, (by first | rfl | exact slLen (by simp []) | exact intEq (by omega) | exact intEq (by simp []) | exact slLen (by simp []; omega)), (by first | rfl | exact slLen (by simp []) | exact intEq (by omega) | exact intEq (by simp []) | exact slLen (by simp []; omega)), trivial⟩
  · intro hc1
    have hc1 : ¬ ((k : Int) < (fs.length : Int)) := of_decide_eq_false hc1
    refine At.exit rfl ?_
    refine At.seq ?_
    refine At.region ?_
    refine AtL.move (.inl rfl) rfl rfl ?_
    refine AtL.cat (.inl rfl) rfl rfl rfl (by first | omega | (simp only [List.length_append, List.length_cons, List.length_nil]; omega) | (simp; omega)) ?_
    refine AtL.bytesOf (l := s ++ [13, 10]) Tryz.underlying9 Tryz.underlying22 Tryz.underlying5 (by first | omega | (simp only [List.length_append, List.length_cons, List.length_nil]; omega) | (simp; done) | (simp; omega)) (.inl rfl) rfl rfl ?_
    intro A2 C3 s4 n6 o5
    refine AtL.assign (.inl rfl) rfl rfl ?_
    refine AtL.done ?_
    refine At.pick (H' := s4 :: H) [0] 2 rfl rfl ?_
    exact At.ret Tryz.func84 rfl rfl (⟨⟨A2, C3, s ++ [13, 10], s4, o5⟩, by rw [List.take_of_length_le (show fs.length ≤ k by omega)] at hx; rw [headB, fieldsB_p]; simp only [hx]; simp, rfl, rfl⟩)

set_option maxHeartbeats 400000 in
theorem rcheck_ok {w0 : World} {base : Nat} {H : List Seg} {m t : List UInt8} {minor : Int} {A : Option Addr} {C : Nat} {fs : List (List UInt8 × List UInt8)} (h : Rd tyField w0 base H A C fs) (hfl : fs.length ≤ 1000) (htot : m.length + t.length + szF fs ≤ 140737488354000) :
    SCalls Tryz.prog 36 [.agg #[str m, str t, .int .i64 minor, .slice A fs.length C]] w0 base (H) (fun v H' => v = int (writeE ⟨m, t, minor, fs⟩) ∧ H' = H) := by
  have hb : ∀ f ∈ fs, f.1.length ≤ 140737488355000 ∧ f.2.length ≤ 140737488355000 := fun f hf => by have := szF_mem hf; omega
  have hle0 := h.le
  have hcap0 := h.cap
  refine SCalls.of_walk (n := 70) Tryz.func36 rfl rfl rfl fun cs => ?_
  refine At.seq ?_
  refine At.region ?_
  refine AtL.box (cs := #[str m, str t, .int .i64 minor, .slice A fs.length C]) rfl (.inl rfl) rfl rfl ?_
  intro b1
  refine AtL.assign (.inl rfl) rfl rfl ?_
  refine AtL.done ?_
  refine At.seq ?_
  refine At.seq ?_
  refine At.region ?_
  refine AtL.fieldAddrB tf_fo35_0 (.inl rfl) rfl rfl rfl ?_
  refine AtL.load tf_flat9 (.inl rfl) rfl rfl (Cell.own 0 0 rfl rfl rfl) ?_
  refine AtL.call tf_body85 (.inl rfl) rfl rfl (rword_ok (l := m) (by first | omega | (simp only [List.length_append, List.length_cons, List.length_nil]; omega) | (simp; done) | (simp; omega)) 16) ?_
  rintro _ _ ⟨rfl, rfl⟩
  refine AtL.not (.inl rfl) rfl rfl ?_
  refine AtL.move (.inl rfl) rfl rfl ?_
  refine AtL.join 5 (E' := [(13, .bool (decide (((wordF m 16) = false) ∨ ((targetF t) = false)))), (1, .pointer (some ⟨b1, 0, none⟩))]) (H' := [(b1, .cells #[str m, str t, .int .i64 minor, .slice A fs.length C] 35 (0, 0))] :: H) (fun J => ?_) ?_
  · refine AtL.split (t := 8) rfl ?_ ?_
    · intro hs8
      have hs8 : (wordF m 16) = false := bnot_true hs8
      refine AtL.skipped rfl rfl rfl rfl rfl rfl ?_
      refine AtL.skipped rfl rfl rfl rfl rfl rfl ?_
      refine AtL.skipped rfl rfl rfl rfl rfl rfl ?_
      refine AtL.skipped rfl rfl rfl rfl rfl rfl ?_
      refine AtL.pickT (.inl rfl) rfl rfl rfl ?_
      exact J _ (by exact ⟨(boolIs (by clear J; first | (simp [hs8]; done) | (simp_all; done) | grind)), rfl, trivial⟩)
    · intro hs8
      have hs8 : (wordF m 16) = true := bnot_false hs8
      refine AtL.fieldAddrB tf_fo35_1 (.inr ⟨_, _, _, rfl, rfl, rfl, rfl⟩) rfl rfl rfl ?_
      refine AtL.load tf_flat9 (.inr ⟨_, _, _, rfl, rfl, rfl, rfl⟩) rfl rfl (Cell.own 0 0 rfl rfl rfl) ?_
      refine AtL.call tf_body86 (.inr ⟨_, _, _, rfl, rfl, rfl, rfl⟩) rfl rfl (rtarget_ok (l := t) (by first | omega | (simp only [List.length_append, List.length_cons, List.length_nil]; omega) | (simp; done) | (simp; omega))) ?_
      rintro _ _ ⟨rfl, rfl⟩
      refine AtL.not (.inr ⟨_, _, _, rfl, rfl, rfl, rfl⟩) rfl rfl ?_
      refine AtL.pickF (.inl rfl) rfl rfl rfl ?_
      exact J _ (by exact ⟨(boolIs (by clear J; first | (simp [hs8]; done) | (simp_all; done) | grind)), rfl, trivial⟩)
  · skip
    refine AtL.move (.inl rfl) rfl rfl ?_
    refine AtL.join 5 (E' := [(19, .bool (decide ((((wordF m 16) = false) ∨ ((targetF t) = false)) ∨ (2048 < (t.length : Int))))), (1, .pointer (some ⟨b1, 0, none⟩))]) (H' := [(b1, .cells #[str m, str t, .int .i64 minor, .slice A fs.length C] 35 (0, 0))] :: H) (fun J => ?_) ?_
    · refine AtL.split (t := 14) rfl ?_ ?_
      · intro hs14
        have hs14 : ((wordF m 16) = false) ∨ ((targetF t) = false) := of_decide_eq_true hs14
        refine AtL.skipped rfl rfl rfl rfl rfl rfl ?_
        refine AtL.skipped rfl rfl rfl rfl rfl rfl ?_
        refine AtL.skipped rfl rfl rfl rfl rfl rfl ?_
        refine AtL.skipped rfl rfl rfl rfl rfl rfl ?_
        refine AtL.pickT (.inl rfl) rfl rfl rfl ?_
        exact J _ (by exact ⟨(boolIs (by clear J; first | (simp [hs14]; done) | (simp_all; done) | grind)), rfl, trivial⟩)
      · intro hs14
        have hs14 : ¬ (((wordF m 16) = false) ∨ ((targetF t) = false)) := of_decide_eq_false hs14
        refine AtL.fieldAddrB tf_fo35_1 (.inr ⟨_, _, _, rfl, rfl, rfl, rfl⟩) rfl rfl rfl ?_
        refine AtL.load tf_flat9 (.inr ⟨_, _, _, rfl, rfl, rfl, rfl⟩) rfl rfl (Cell.own 0 0 rfl rfl rfl) ?_
        refine AtL.lenS (l := t) Tryz.underlying9 (.inr ⟨_, _, _, rfl, rfl, rfl, rfl⟩) rfl rfl ?_
        refine AtL.gtr (.inr ⟨_, _, _, rfl, rfl, rfl, rfl⟩) rfl rfl rfl ?_
        refine AtL.pickF (.inl rfl) rfl rfl rfl ?_
        exact J _ (by exact ⟨(boolIs (by clear J; first | (simp [hs14]; done) | (simp_all; done) | grind)), rfl, trivial⟩)
    · skip
      refine AtL.move (.inl rfl) rfl rfl ?_
      refine AtL.join 4 (E' := [(24, .bool (decide (((((wordF m 16) = false) ∨ ((targetF t) = false)) ∨ (2048 < (t.length : Int))) ∨ ((minor : Int) < 0)))), (1, .pointer (some ⟨b1, 0, none⟩))]) (H' := [(b1, .cells #[str m, str t, .int .i64 minor, .slice A fs.length C] 35 (0, 0))] :: H) (fun J => ?_) ?_
      · refine AtL.split (t := 20) rfl ?_ ?_
        · intro hs20
          have hs20 : (((wordF m 16) = false) ∨ ((targetF t) = false)) ∨ (2048 < (t.length : Int)) := of_decide_eq_true hs20
          refine AtL.skipped rfl rfl rfl rfl rfl rfl ?_
          refine AtL.skipped rfl rfl rfl rfl rfl rfl ?_
          refine AtL.skipped rfl rfl rfl rfl rfl rfl ?_
          refine AtL.pickT (.inl rfl) rfl rfl rfl ?_
          exact J _ (by exact ⟨(boolIs (by clear J; first | (simp [hs20]; done) | (simp_all; done) | grind)), rfl, trivial⟩)
        · intro hs20
          have hs20 : ¬ ((((wordF m 16) = false) ∨ ((targetF t) = false)) ∨ (2048 < (t.length : Int))) := of_decide_eq_false hs20
          refine AtL.fieldAddrB tf_fo35_2 (.inr ⟨_, _, _, rfl, rfl, rfl, rfl⟩) rfl rfl rfl ?_
          refine AtL.load tf_flat3 (.inr ⟨_, _, _, rfl, rfl, rfl, rfl⟩) rfl rfl (Cell.own 0 0 rfl rfl rfl) ?_
          refine AtL.lss (.inr ⟨_, _, _, rfl, rfl, rfl, rfl⟩) rfl rfl rfl ?_
          refine AtL.pickF (.inl rfl) rfl rfl rfl ?_
          exact J _ (by exact ⟨(boolIs (by clear J; first | (simp [hs20]; done) | (simp_all; done) | grind)), rfl, trivial⟩)
      · skip
        refine AtL.move (.inl rfl) rfl rfl ?_
        refine AtL.join 4 (E' := [(29, .bool (decide ((((((wordF m 16) = false) ∨ ((targetF t) = false)) ∨ (2048 < (t.length : Int))) ∨ ((minor : Int) < 0)) ∨ (1 < (minor : Int))))), (1, .pointer (some ⟨b1, 0, none⟩))]) (H' := [(b1, .cells #[str m, str t, .int .i64 minor, .slice A fs.length C] 35 (0, 0))] :: H) (fun J => ?_) ?_
        · refine AtL.split (t := 25) rfl ?_ ?_
          · intro hs25
            have hs25 : ((((wordF m 16) = false) ∨ ((targetF t) = false)) ∨ (2048 < (t.length : Int))) ∨ ((minor : Int) < 0) := of_decide_eq_true hs25
            refine AtL.skipped rfl rfl rfl rfl rfl rfl ?_
            refine AtL.skipped rfl rfl rfl rfl rfl rfl ?_
            refine AtL.skipped rfl rfl rfl rfl rfl rfl ?_
            refine AtL.pickT (.inl rfl) rfl rfl rfl ?_
            exact J _ (by exact ⟨(boolIs (by clear J; first | (simp [hs25]; done) | (simp_all; done) | grind)), rfl, trivial⟩)
          · intro hs25
            have hs25 : ¬ (((((wordF m 16) = false) ∨ ((targetF t) = false)) ∨ (2048 < (t.length : Int))) ∨ ((minor : Int) < 0)) := of_decide_eq_false hs25
            refine AtL.fieldAddrB tf_fo35_2 (.inr ⟨_, _, _, rfl, rfl, rfl, rfl⟩) rfl rfl rfl ?_
            refine AtL.load tf_flat3 (.inr ⟨_, _, _, rfl, rfl, rfl, rfl⟩) rfl rfl (Cell.own 0 0 rfl rfl rfl) ?_
            refine AtL.gtr (.inr ⟨_, _, _, rfl, rfl, rfl, rfl⟩) rfl rfl rfl ?_
            refine AtL.pickF (.inl rfl) rfl rfl rfl ?_
            exact J _ (by exact ⟨(boolIs (by clear J; first | (simp [hs25]; done) | (simp_all; done) | grind)), rfl, trivial⟩)
        · skip
          refine AtL.move (.inl rfl) rfl rfl ?_
          refine AtL.join 5 (E' := [(35, .bool (decide (((((((wordF m 16) = false) ∨ ((targetF t) = false)) ∨ (2048 < (t.length : Int))) ∨ ((minor : Int) < 0)) ∨ (1 < (minor : Int))) ∨ (32 < (fs.length : Int))))), (1, .pointer (some ⟨b1, 0, none⟩))]) (H' := [(b1, .cells #[str m, str t, .int .i64 minor, .slice A fs.length C] 35 (0, 0))] :: H) (fun J => ?_) ?_
          · refine AtL.split (t := 30) rfl ?_ ?_
            · intro hs30
              have hs30 : (((((wordF m 16) = false) ∨ ((targetF t) = false)) ∨ (2048 < (t.length : Int))) ∨ ((minor : Int) < 0)) ∨ (1 < (minor : Int)) := of_decide_eq_true hs30
              refine AtL.skipped rfl rfl rfl rfl rfl rfl ?_
              refine AtL.skipped rfl rfl rfl rfl rfl rfl ?_
              refine AtL.skipped rfl rfl rfl rfl rfl rfl ?_
              refine AtL.skipped rfl rfl rfl rfl rfl rfl ?_
              refine AtL.pickT (.inl rfl) rfl rfl rfl ?_
              exact J _ (by exact ⟨(boolIs (by clear J; first | (simp [hs30]; done) | (simp_all; done) | grind)), rfl, trivial⟩)
            · intro hs30
              have hs30 : ¬ ((((((wordF m 16) = false) ∨ ((targetF t) = false)) ∨ (2048 < (t.length : Int))) ∨ ((minor : Int) < 0)) ∨ (1 < (minor : Int))) := of_decide_eq_false hs30
              refine AtL.fieldAddrB tf_fo35_3 (.inr ⟨_, _, _, rfl, rfl, rfl, rfl⟩) rfl rfl rfl ?_
              refine AtL.load tf_flat33 (.inr ⟨_, _, _, rfl, rfl, rfl, rfl⟩) rfl rfl (Cell.own 0 0 rfl rfl rfl) ?_
              refine AtL.lenL Tryz.underlying33 (.inr ⟨_, _, _, rfl, rfl, rfl, rfl⟩) rfl rfl ?_
              refine AtL.gtr (.inr ⟨_, _, _, rfl, rfl, rfl, rfl⟩) rfl rfl rfl ?_
              refine AtL.pickF (.inl rfl) rfl rfl rfl ?_
              exact J _ (by exact ⟨(boolIs (by clear J; first | (simp [hs30]; done) | (simp_all; done) | grind)), rfl, trivial⟩)
          · skip
            refine AtL.done ?_
            refine At.cond rfl ?_ ?_
            · intro hc1
              have hc1 : ((((((wordF m 16) = false) ∨ ((targetF t) = false)) ∨ (2048 < (t.length : Int))) ∨ ((minor : Int) < 0)) ∨ (1 < (minor : Int))) ∨ (32 < (fs.length : Int)) := of_decide_eq_true hc1
              refine At.seq ?_
              refine At.region ?_
              refine AtL.assign (.inl rfl) rfl rfl ?_
              refine AtL.done ?_
              refine At.pick (H' := H) [] 1 rfl rfl ?_
              have hw : ¬ writeOk ⟨m, t, minor, fs⟩ = true := by simp only [writeOk, okF]; rcases hc1 with ((((h1 | h1) | h1) | h1) | h1) | h1 <;> simp [h1] <;> omega
              exact At.ret Tryz.func36 rfl rfl (⟨congrArg int (by rw [writeE, if_neg hw]), rfl⟩)
            · intro hc1
              have hc1 : ¬ (((((((wordF m 16) = false) ∨ ((targetF t) = false)) ∨ (2048 < (t.length : Int))) ∨ ((minor : Int) < 0)) ∨ (1 < (minor : Int))) ∨ (32 < (fs.length : Int))) := of_decide_eq_false hc1
              have hmin : 0 ≤ minor ∧ minor ≤ 1 := by simp only [not_or] at hc1; omega
              obtain ⟨n, hn, hmn⟩ : ∃ n : Nat, n < 2 ∧ minor = (n : Int) := ⟨minor.toNat, by omega, by omega⟩
              subst hmn
              refine At.skip ?_
              refine At.seq ?_
              refine At.seq ?_
              refine At.region ?_
              refine AtL.assign (.inl rfl) rfl rfl ?_
              refine AtL.done ?_
              refine At.block ?_
              refine At.loop (fun (k : Nat) => [(1, .pointer (some ⟨b1, 0, none⟩)), (3, .int .i64 (k : Int))]) (fun (k : Nat) => [(b1, .cells #[str m, str t, .int .i64 (n : Int), .slice A fs.length C] 35 (0, 0))] :: H) (fun (k : Nat) => k ≤ fs.length ∧ (fs.take k).all fieldOk = true) (fun (k : Nat) => fs.length - k) 0 (⟨Nat.zero_le _, rfl⟩) ⟨rfl, rfl, trivial⟩ rfl ?_
              rintro k ⟨hk, ha⟩ ihL1
              refine At.seq ?_
              refine At.seq ?_
              refine At.region ?_
              refine AtL.move (.inl rfl) rfl rfl ?_
              refine AtL.fieldAddrB tf_fo35_3 (.inl rfl) rfl rfl rfl ?_
              refine AtL.load tf_flat33 (.inl rfl) rfl rfl (Cell.own 0 0 rfl rfl rfl) ?_
              refine AtL.lenL Tryz.underlying33 (.inl rfl) rfl rfl ?_
              refine AtL.lss (.inl rfl) rfl rfl rfl ?_
              refine AtL.done ?_
              refine At.cond rfl ?_ ?_
              · intro hc2
                have hc2 : (k : Int) < (fs.length : Int) := of_decide_eq_true hc2
                have hbk := szF_step fs k (by omega)
                refine At.skip ?_
                refine At.seq ?_
                refine At.block ?_
                refine At.seq ?_
                refine At.region ?_
                refine AtL.fieldAddrB tf_fo35_3 (.inl rfl) rfl rfl rfl ?_
                refine AtL.load tf_flat33 (.inl rfl) rfl rfl (Cell.own 0 0 rfl rfl rfl) ?_
                refine AtL.move (.inl rfl) rfl rfl ?_
                refine AtL.indexL k (Rd.skip 1 h) Tryz.underlying33 tf_sz52 (.inl rfl) rfl rfl rfl rfl (by omega) ?_
                refine AtL.fieldAddr tf_fo52_0 (.inl rfl) rfl rfl ?_
                refine AtL.load (v := str ((fs.getD k (([], []) : List UInt8 × List UInt8)).1)) tf_flat9 (.inl rfl) rfl rfl (Rd.cell_at (Rd.skip 1 h) (j := 0) (getD_some (([], []) : List UInt8 × List UInt8) (by omega)) rfl) ?_
                refine AtL.call tf_body85 (.inl rfl) rfl rfl (rword_ok (l := (fs.getD k (([], []) : List UInt8 × List UInt8)).1) (by first | omega | (simp only [List.length_append, List.length_cons, List.length_nil]; omega) | (simp; done) | (simp; omega)) 64) ?_
                rintro _ _ ⟨rfl, rfl⟩
                refine AtL.not (.inl rfl) rfl rfl ?_
                refine AtL.move (.inl rfl) rfl rfl ?_
                refine AtL.join 9 (E' := [(60, .bool (decide (((wordF ((fs.getD k (([], []) : List UInt8 × List UInt8)).1) 64) = false) ∨ ((valueF ((fs.getD k (([], []) : List UInt8 × List UInt8)).2)) = false)))), (1, .pointer (some ⟨b1, 0, none⟩)), (3, .int .i64 (k : Int))]) (H' := [(b1, .cells #[str m, str t, .int .i64 (n : Int), .slice A fs.length C] 35 (0, 0))] :: H) (fun J => ?_) ?_
                · refine AtL.split (t := 51) rfl ?_ ?_
                  · intro hs51
                    have hs51 : (wordF ((fs.getD k (([], []) : List UInt8 × List UInt8)).1) 64) = false := bnot_true hs51
                    refine AtL.skipped rfl rfl rfl rfl rfl rfl ?_
                    refine AtL.skipped rfl rfl rfl rfl rfl rfl ?_
                    refine AtL.skipped rfl rfl rfl rfl rfl rfl ?_
                    refine AtL.skipped rfl rfl rfl rfl rfl rfl ?_
                    refine AtL.skipped rfl rfl rfl rfl rfl rfl ?_
                    refine AtL.skipped rfl rfl rfl rfl rfl rfl ?_
                    refine AtL.skipped rfl rfl rfl rfl rfl rfl ?_
                    refine AtL.skipped rfl rfl rfl rfl rfl rfl ?_
                    refine AtL.pickT (.inl rfl) rfl rfl rfl ?_
                    exact J _ (by exact ⟨(boolIs (by clear J; first | (simp [hs51]; done) | (simp_all; done) | grind)), rfl, rfl, trivial⟩)
                  · intro hs51
                    have hs51 : (wordF ((fs.getD k (([], []) : List UInt8 × List UInt8)).1) 64) = true := bnot_false hs51
                    refine AtL.fieldAddrB tf_fo35_3 (.inr ⟨_, _, _, rfl, rfl, rfl, rfl⟩) rfl rfl rfl ?_
                    refine AtL.load tf_flat33 (.inr ⟨_, _, _, rfl, rfl, rfl, rfl⟩) rfl rfl (Cell.own 0 0 rfl rfl rfl) ?_
                    refine AtL.move (.inr ⟨_, _, _, rfl, rfl, rfl, rfl⟩) rfl rfl ?_
                    refine AtL.indexL k (Rd.skip 1 h) Tryz.underlying33 tf_sz52 (.inr ⟨_, _, _, rfl, rfl, rfl, rfl⟩) rfl rfl rfl rfl (by omega) ?_
                    refine AtL.fieldAddr tf_fo52_1 (.inr ⟨_, _, _, rfl, rfl, rfl, rfl⟩) rfl rfl ?_
                    refine AtL.load (v := str ((fs.getD k (([], []) : List UInt8 × List UInt8)).2)) tf_flat9 (.inr ⟨_, _, _, rfl, rfl, rfl, rfl⟩) rfl rfl (Rd.cell_at (Rd.skip 1 h) (j := 1) (getD_some (([], []) : List UInt8 × List UInt8) (by omega)) rfl) ?_
                    refine AtL.call tf_body87 (.inr ⟨_, _, _, rfl, rfl, rfl, rfl⟩) rfl rfl (rvalue_ok (l := (fs.getD k (([], []) : List UInt8 × List UInt8)).2) (by first | omega | (simp only [List.length_append, List.length_cons, List.length_nil]; omega) | (simp; done) | (simp; omega))) ?_
                    rintro _ _ ⟨rfl, rfl⟩
                    refine AtL.not (.inr ⟨_, _, _, rfl, rfl, rfl, rfl⟩) rfl rfl ?_
                    refine AtL.pickF (.inl rfl) rfl rfl rfl ?_
                    exact J _ (by exact ⟨(boolIs (by clear J; first | (simp [hs51]; done) | (simp_all; done) | grind)), rfl, rfl, trivial⟩)
                · skip
                  refine AtL.done ?_
                  refine At.cond rfl ?_ ?_
                  · intro hc3
                    have hc3 : ((wordF ((fs.getD k (([], []) : List UInt8 × List UInt8)).1) 64) = false) ∨ ((valueF ((fs.getD k (([], []) : List UInt8 × List UInt8)).2)) = false) := of_decide_eq_true hc3
                    refine At.seq ?_
                    refine At.region ?_
                    refine AtL.assign (.inl rfl) rfl rfl ?_
                    refine AtL.done ?_
                    refine At.pick (H' := H) [] 1 rfl rfl ?_
                    have hw : ¬ writeOk ⟨m, t, (n : Int), fs⟩ = true := by rw [writeOk, ok_bad (h := ⟨m, t, (n : Int), fs⟩) (k := k) (show k < fs.length by omega) (by rw [fieldOk]; rcases hc3 with h3 | h3 <;> simp [h3] <;> simp_all)]; simp
                    exact At.ret Tryz.func36 rfl rfl (⟨congrArg int (by rw [writeE, if_neg hw]), rfl⟩)
                  · intro hc3
                    have hc3 : ¬ (((wordF ((fs.getD k (([], []) : List UInt8 × List UInt8)).1) 64) = false) ∨ ((valueF ((fs.getD k (([], []) : List UInt8 × List UInt8)).2)) = false)) := of_decide_eq_false hc3
                    refine At.skip ?_
                    refine At.inBlock ?_
                    refine At.region ?_
                    refine AtL.move (.inl rfl) rfl rfl ?_
                    refine AtL.add (z := (k : Int) + 1) (.inl rfl) rfl rfl rfl (w64 (by omega) (by omega)) ?_
                    refine AtL.assign (.inl rfl) rfl rfl ?_
                    refine AtL.done ?_
                    refine ihL1 (k + 1) (⟨by omega, all_stepF (by omega) ha (by rw [fieldOk]; simpa using hc3)⟩) (by omega) _ ?_
                    exact ⟨rfl, (by first | rfl | exact slLen (by simp []) | exact intEq (by omega) | exact intEq (by simp []) | exact slLen (by simp []; omega)), trivial⟩
              · intro hc2
                have hc2 : ¬ ((k : Int) < (fs.length : Int)) := of_decide_eq_false hc2
                refine At.exit rfl ?_
                refine At.seq ?_
                refine At.seq ?_
                refine At.region ?_
                refine AtL.loadN (cs := [str m, str t, .int .i64 (n : Int), .slice A fs.length C]) tf_agg35 (.inl rfl) rfl rfl rfl (cellsOwn 0 0 0 rfl rfl rfl) ?_
                refine AtL.call tf_body88 (.inl rfl) rfl rfl (rhosts_ok (m := m) (t := t) (minor := (n : Int)) (fs := fs) (Rd.skip 1 h) hfl hb) ?_
                rintro _ _ ⟨rfl, rfl⟩
                refine AtL.not (.inl rfl) rfl rfl ?_
                refine AtL.move (.inl rfl) rfl rfl ?_
                refine AtL.join 5 (E' := [(69, .bool (decide (((hostsF fs (n : Int)) = false) ∨ (4096 < ((headB ⟨m, t, (n : Int), fs⟩).length : Int)))))]) (H' := [(b1, .cells #[str m, str t, .int .i64 (n : Int), .slice A fs.length C] 35 (0, 0))] :: H) (fun J => ?_) ?_
                · refine AtL.split (t := 64) rfl ?_ ?_
                  · intro hs64
                    have hs64 : (hostsF fs (n : Int)) = false := bnot_true hs64
                    refine AtL.skipped rfl rfl rfl rfl rfl rfl ?_
                    refine AtL.skipped rfl rfl rfl rfl rfl rfl ?_
                    refine AtL.skipped rfl rfl rfl rfl rfl rfl ?_
                    refine AtL.skipped rfl rfl rfl rfl rfl rfl ?_
                    refine AtL.pickT (.inl rfl) rfl rfl rfl ?_
                    exact J _ (by exact ⟨(boolIs (by clear J; first | (simp [hs64]; done) | (simp_all; done) | grind)), trivial⟩)
                  · intro hs64
                    have hs64 : (hostsF fs (n : Int)) = true := bnot_false hs64
                    refine AtL.loadN (cs := [str m, str t, .int .i64 (n : Int), .slice A fs.length C]) tf_agg35 (.inr ⟨_, _, _, rfl, rfl, rfl, rfl⟩) rfl rfl rfl (cellsOwn 0 0 0 rfl rfl rfl) ?_
                    refine AtL.call tf_body84 (.inr ⟨_, _, _, rfl, rfl, rfl, rfl⟩) rfl rfl (rbytes_ok (m := m) (t := t) (fs := fs) (Rd.skip 1 h) hfl htot n (by omega)) ?_
                    rintro _ _ ⟨⟨A2, C3, l4, s5, o6⟩, hx7, rfl, rfl⟩
                    obtain rfl : headB ⟨m, t, (n : Int), fs⟩ = l4 := hx7.symm
                    refine AtL.lenL Tryz.underlying22 (.inr ⟨_, _, _, rfl, rfl, rfl, rfl⟩) rfl rfl ?_
                    refine AtL.gtr (.inr ⟨_, _, _, rfl, rfl, rfl, rfl⟩) rfl rfl rfl ?_
                    refine AtL.pickF (.inl rfl) rfl rfl rfl ?_
                    refine AtL.pick (H' := [(b1, .cells #[str m, str t, .int .i64 (n : Int), .slice A fs.length C] 35 (0, 0))] :: H) [1] 2 rfl rfl ?_
                    exact J _ (by exact ⟨(boolIs (by clear J; first | (simp [hs64]; done) | (simp_all; done) | grind)), trivial⟩)
                · skip
                  refine AtL.done ?_
                  refine At.cond rfl ?_ ?_
                  · intro hc4
                    have hc4 : ((hostsF fs (n : Int)) = false) ∨ (4096 < ((headB ⟨m, t, (n : Int), fs⟩).length : Int)) := of_decide_eq_true hc4
                    refine At.seq ?_
                    refine At.region ?_
                    refine AtL.assign (.inl rfl) rfl rfl ?_
                    refine AtL.done ?_
                    refine At.pick (H' := H) [] 1 rfl rfl ?_
                    have hw : ¬ writeOk ⟨m, t, (n : Int), fs⟩ = true := by rw [writeOk, Bool.and_eq_true, decide_eq_true_eq]; intro hh; rcases hc4 with h4 | h4; exact absurd hh.1 (by simp only [okF, h4]; simp); omega
                    exact At.ret Tryz.func36 rfl rfl (⟨congrArg int (by rw [writeE, if_neg hw]), rfl⟩)
                  · intro hc4
                    have hc4 : ¬ (((hostsF fs (n : Int)) = false) ∨ (4096 < ((headB ⟨m, t, (n : Int), fs⟩).length : Int))) := of_decide_eq_false hc4
                    refine At.skip ?_
                    refine At.seq ?_
                    refine At.region ?_
                    refine AtL.assign (.inl rfl) rfl rfl ?_
                    refine AtL.done ?_
                    refine At.pick (H' := H) [] 1 rfl rfl ?_
                    have hw : writeOk ⟨m, t, (n : Int), fs⟩ = true := by rw [List.take_of_length_le (show fs.length ≤ k by omega)] at ha; simp only [not_or] at hc1 hc4; simp only [writeOk, okF, ha]; simp at hc1 hc4 ⊢; simp [hc1, hc4]; omega
                    exact At.ret Tryz.func36 rfl rfl (⟨congrArg int (by rw [writeE, if_pos hw]), rfl⟩)

set_option maxHeartbeats 400000 in
theorem rwrite_ok {w0 : World} {base : Nat} {H : List Seg} {m t : List UInt8} {minor : Int} {A : Option Addr} {C : Nat} {fs : List (List UInt8 × List UInt8)} (h : Rd tyField w0 base H A C fs) (hfl : fs.length ≤ 1000) (htot : m.length + t.length + szF fs ≤ 140737488354000) :
    SCalls Tryz.prog 34 [.agg #[str m, str t, .int .i64 minor, .slice A fs.length C]] w0 base (H) (fun v H' => ∃ x : Sl tyB 5, x.l = writeL ⟨m, t, minor, fs⟩ ∧ v = .tuple #[.slice x.A x.l.length x.C, int (writeE ⟨m, t, minor, fs⟩)] ∧ H' = x.s :: H) := by
  have hb : ∀ f ∈ fs, f.1.length ≤ 140737488355000 ∧ f.2.length ≤ 140737488355000 := fun f hf => by have := szF_mem hf; omega
  have hle0 := h.le
  have hcap0 := h.cap
  refine SCalls.of_walk (n := 12) Tryz.func34 rfl rfl rfl fun cs => ?_
  refine At.seq ?_
  refine At.region ?_
  refine AtL.box (cs := #[str m, str t, .int .i64 minor, .slice A fs.length C]) rfl (.inl rfl) rfl rfl ?_
  intro b1
  refine AtL.assign (.inl rfl) rfl rfl ?_
  refine AtL.assign (.inl rfl) rfl rfl ?_
  refine AtL.done ?_
  refine At.seq ?_
  refine At.region ?_
  refine AtL.loadN (cs := [str m, str t, .int .i64 minor, .slice A fs.length C]) tf_agg35 (.inl rfl) rfl rfl rfl (cellsOwn 0 0 0 rfl rfl rfl) ?_
  refine AtL.call tf_body36 (.inl rfl) rfl rfl (rcheck_ok (m := m) (t := t) (minor := minor) (fs := fs) (Rd.skip 1 h) hfl htot) ?_
  rintro _ _ ⟨rfl, rfl⟩
  refine AtL.assign (.inl rfl) rfl rfl ?_
  refine AtL.done ?_
  refine At.seq ?_
  refine At.seq ?_
  refine At.region ?_
  refine AtL.move (.inl rfl) rfl rfl ?_
  refine AtL.nei (.inl rfl) rfl rfl rfl ?_
  refine AtL.done ?_
  refine At.cond rfl ?_ ?_
  · intro hc1
    have hc1 : ¬ ((writeE ⟨m, t, minor, fs⟩ : Int) = 0) := of_decide_eq_false (bnot_true hc1)
    refine At.seq ?_
    refine At.region ?_
    refine AtL.move (.inl rfl) rfl rfl ?_
    refine AtL.assign (.inl rfl) rfl rfl ?_
    refine AtL.assign (.inl rfl) rfl rfl ?_
    refine AtL.done ?_
    refine At.nil ?_
    refine At.pick (H' := [] :: H) [0] 2 rfl rfl ?_
    have hw : ¬ writeOk ⟨m, t, minor, fs⟩ = true := fun hw => hc1 (by rw [writeE, if_pos hw])
    exact At.ret Tryz.func34 rfl rfl (⟨Sl.nil, by rw [writeL, if_neg hw]; rfl, rfl, rfl⟩)
  · intro hc1
    have hc1 : (writeE ⟨m, t, minor, fs⟩ : Int) = 0 := of_decide_eq_true (bnot_false hc1)
    have hw : writeOk ⟨m, t, minor, fs⟩ = true := by cases hq : writeOk ⟨m, t, minor, fs⟩ with | true => rfl | false => exact absurd hc1 (by simp [writeE, hq])
    obtain ⟨n, hn, hmn⟩ := ok_minor (by simp only [writeOk, Bool.and_eq_true] at hw; exact hw.1)
    subst hmn
    refine At.skip ?_
    refine At.seq ?_
    refine At.region ?_
    refine AtL.loadN (cs := [str m, str t, .int .i64 (n : Int), .slice A fs.length C]) tf_agg35 (.inl rfl) rfl rfl rfl (cellsOwn 0 0 0 rfl rfl rfl) ?_
    refine AtL.call tf_body84 (.inl rfl) rfl rfl (rbytes_ok (m := m) (t := t) (fs := fs) (Rd.skip 1 h) hfl htot n (by omega)) ?_
    rintro _ _ ⟨⟨A2, C3, l4, s5, o6⟩, hx7, rfl, rfl⟩
    obtain rfl : headB ⟨m, t, (n : Int), fs⟩ = l4 := hx7.symm
    refine AtL.assign (.inl rfl) rfl rfl ?_
    refine AtL.assign (.inl rfl) rfl rfl ?_
    refine AtL.done ?_
    refine At.pick (H' := s5 :: H) [0] 2 rfl rfl ?_
    exact At.ret Tryz.func34 rfl rfl (⟨⟨A2, C3, headB ⟨m, t, (n : Int), fs⟩, s5, o6⟩, by rw [writeL, if_pos hw], by rw [writeE, if_pos hw]; rfl, rfl⟩)

end Go.Proofs.YtlfkoimkojbghaaGreatDoor
