/- The answer beside heads: Field. -/
import Derived.Test.YtlfkoimkojbghaaDoorER1
namespace Go.Proofs.YtlfkoimkojbghaaDoor
set_option linter.unusedVariables false
set_option linter.unusedSimpArgs false
set_option maxRecDepth 100000

set_option maxHeartbeats 400000 in
theorem rfield_ok {w0 : World} {base : Nat} {H : List Seg} {m t : List UInt8} {minor : Int} {A : Option Addr} {C : Nat} {fs : List (List UInt8 × List UInt8)} (h : Rd tyField w0 base H A C fs) {nm : List UInt8} (hnm : nm.length ≤ 140737488355000) (hfl : fs.length ≤ 1000) (hb : ∀ f ∈ fs, f.1.length ≤ 140737488355000 ∧ f.2.length ≤ 140737488355000) :
    SCalls Tryd.prog 54 [.agg #[str m, str t, .int .i64 minor, .slice A fs.length C], str nm] w0 base (H) (fun v H' => v = .tuple #[str (fieldF fs nm).1, int ((fieldF fs nm).2 : Int)] ∧ H' = H) := by
  have hle0 := h.le
  have hcap0 := h.cap
  refine SCalls.of_walk (n := 36) Tryd.func54 rfl rfl rfl fun cs => ?_
  refine At.seq ?_
  refine At.region ?_
  refine AtL.box (cs := #[str m, str t, .int .i64 minor, .slice A fs.length C]) rfl (.inl rfl) rfl rfl ?_
  intro b1
  refine AtL.assign (.inl rfl) rfl rfl ?_
  refine AtL.assign (.inl rfl) rfl rfl ?_
  refine AtL.done ?_
  refine At.seq ?_
  refine At.region ?_
  refine AtL.assign (.inl rfl) rfl rfl ?_
  refine AtL.assign (.inl rfl) rfl rfl ?_
  refine AtL.done ?_
  refine At.seq ?_
  refine At.seq ?_
  refine At.region ?_
  refine AtL.assign (.inl rfl) rfl rfl ?_
  refine AtL.done ?_
  refine At.block ?_
  refine At.loop3 (fun (k : Nat) (val : List UInt8) (n : Nat) => [(1, str nm), (2, .pointer (some ⟨b1, 0, none⟩)), (6, str val), (7, .int .i64 (n : Int)), (8, .int .i64 (k : Int))]) (fun (k : Nat) (val : List UInt8) (n : Nat) => [(b1, .cells #[str m, str t, .int .i64 minor, .slice A fs.length C] 24 (0, 0))] :: H) (fun (k : Nat) (val : List UInt8) (n : Nat) => k ≤ fs.length ∧ val = (allF (fs.take k) nm).headD [] ∧ n = (allF (fs.take k) nm).length) (fun (k : Nat) (val : List UInt8) (n : Nat) => fs.length - k) 0 [] 0 (⟨Nat.zero_le _, rfl, rfl⟩) ⟨rfl, rfl, rfl, rfl, rfl, trivial⟩ rfl ?_
  rintro k val n ⟨hk, hv, hn⟩ ihL1
  have hnl := allF_len (fs.take k) nm
  rw [← hn, List.length_take] at hnl
  refine At.seq ?_
  refine At.seq ?_
  refine At.region ?_
  refine AtL.move (.inl rfl) rfl rfl ?_
  refine AtL.fieldAddrB tf_fo24_3 (.inl rfl) rfl rfl rfl ?_
  refine AtL.load tf_flat22 (.inl rfl) rfl rfl (Cell.own 0 0 rfl rfl rfl) ?_
  refine AtL.lenL Tryd.underlying22 (.inl rfl) rfl rfl ?_
  refine AtL.lss (.inl rfl) rfl rfl rfl ?_
  refine AtL.done ?_
  refine At.cond rfl ?_ ?_
  · intro hc1
    have hc1 : (k : Int) < (fs.length : Int) := of_decide_eq_true hc1
    have hbk := hb _ (getD_mem (l := fs) (i := k) (d := (([], []) : List UInt8 × List UInt8)) (by omega))
    refine At.skip ?_
    refine At.seq ?_
    refine At.block ?_
    refine At.seq ?_
    refine At.region ?_
    refine AtL.fieldAddrB tf_fo24_3 (.inl rfl) rfl rfl rfl ?_
    refine AtL.load tf_flat22 (.inl rfl) rfl rfl (Cell.own 0 0 rfl rfl rfl) ?_
    refine AtL.move (.inl rfl) rfl rfl ?_
    refine AtL.indexL k (Rd.skip 1 h) Tryd.underlying22 tf_sz67 (.inl rfl) rfl rfl rfl rfl (by omega) ?_
    refine AtL.fieldAddr tf_fo67_0 (.inl rfl) rfl rfl ?_
    refine AtL.load (v := str ((fs.getD k (([], []) : List UInt8 × List UInt8)).1)) tf_flat9 (.inl rfl) rfl rfl (Rd.cell_at (Rd.skip 1 h) (j := 0) (getD_some (([], []) : List UInt8 × List UInt8) (by omega)) rfl) ?_
    refine AtL.move (.inl rfl) rfl rfl ?_
    refine AtL.call tf_body55 (.inl rfl) rfl rfl (rsame_ok (a := (fs.getD k (([], []) : List UInt8 × List UInt8)).1) (b := nm) (by omega) hnm) ?_
    rintro _ _ ⟨rfl, rfl⟩
    refine AtL.done ?_
    refine At.cond rfl ?_ ?_
    · intro hc2
      have hc2 : lowerF ((fs.getD k (([], []) : List UInt8 × List UInt8)).1) = lowerF nm := of_decide_eq_true hc2
      refine At.seq ?_
      refine At.seq ?_
      refine At.region ?_
      refine AtL.move (.inl rfl) rfl rfl ?_
      refine AtL.eqi (.inl rfl) rfl rfl rfl ?_
      refine AtL.done ?_
      refine At.cond rfl ?_ ?_
      · intro hc3
        have hc3 : (n : Int) = 0 := of_decide_eq_true hc3
        refine At.region ?_
        refine AtL.fieldAddrB tf_fo24_3 (.inl rfl) rfl rfl rfl ?_
        refine AtL.load tf_flat22 (.inl rfl) rfl rfl (Cell.own 0 0 rfl rfl rfl) ?_
        refine AtL.move (.inl rfl) rfl rfl ?_
        refine AtL.indexL k (Rd.skip 1 h) Tryd.underlying22 tf_sz67 (.inl rfl) rfl rfl rfl rfl (by omega) ?_
        refine AtL.fieldAddr tf_fo67_1 (.inl rfl) rfl rfl ?_
        refine AtL.load (v := str ((fs.getD k (([], []) : List UInt8 × List UInt8)).2)) tf_flat9 (.inl rfl) rfl rfl (Rd.cell_at (Rd.skip 1 h) (j := 1) (getD_some (([], []) : List UInt8 × List UInt8) (by omega)) rfl) ?_
        refine AtL.assign (.inl rfl) rfl rfl ?_
        refine AtL.done ?_
        refine At.region ?_
        refine AtL.move (.inl rfl) rfl rfl ?_
        refine AtL.add (z := (n : Int) + 1) (.inl rfl) rfl rfl rfl (w64 (by omega) (by omega)) ?_
        refine AtL.assign (.inl rfl) rfl rfl ?_
        refine AtL.done ?_
        refine At.inBlock ?_
        refine At.region ?_
        refine AtL.move (.inl rfl) rfl rfl ?_
        refine AtL.add (z := (k : Int) + 1) (.inl rfl) rfl rfl rfl (w64 (by omega) (by omega)) ?_
        refine AtL.assign (.inl rfl) rfl rfl ?_
        refine AtL.done ?_
        refine ihL1 (k + 1) ((fs.getD k (([], []) : List UInt8 × List UInt8)).2) (n + 1) (⟨by omega, by rw [allF_snoc _ _ (by omega), if_pos hc2]; have h0 : allF (fs.take k) nm = [] := List.eq_nil_of_length_eq_zero (by omega); rw [h0]; rfl, by rw [allF_snoc _ _ (by omega), if_pos hc2]; simp; omega⟩) (by omega) _ ?_
        exact ⟨rfl, rfl, (by first | rfl | exact slLen (by simp []) | exact intEq (by omega) | exact intEq (by simp []) | exact slLen (by simp []; omega)), (by first | rfl | exact slLen (by simp []) | exact intEq (by omega) | exact intEq (by simp []) | exact slLen (by simp []; omega)), (by first | rfl | exact slLen (by simp []) | exact intEq (by omega) | exact intEq (by simp []) | exact slLen (by simp []; omega)), trivial⟩
      · intro hc3
        have hc3 : ¬ ((n : Int) = 0) := of_decide_eq_false hc3
        refine At.skip ?_
        refine At.region ?_
        refine AtL.move (.inl rfl) rfl rfl ?_
        refine AtL.add (z := (n : Int) + 1) (.inl rfl) rfl rfl rfl (w64 (by omega) (by omega)) ?_
        refine AtL.assign (.inl rfl) rfl rfl ?_
        refine AtL.done ?_
        refine At.inBlock ?_
        refine At.region ?_
        refine AtL.move (.inl rfl) rfl rfl ?_
        refine AtL.add (z := (k : Int) + 1) (.inl rfl) rfl rfl rfl (w64 (by omega) (by omega)) ?_
        refine AtL.assign (.inl rfl) rfl rfl ?_
        refine AtL.done ?_
        refine ihL1 (k + 1) val (n + 1) (⟨by omega, by rw [allF_snoc _ _ (by omega), if_pos hc2]; rw [hv]; cases hq : allF (fs.take k) nm with | nil => rw [hq] at hn; simp at hn; omega | cons a r => rfl, by rw [allF_snoc _ _ (by omega), if_pos hc2]; simp; omega⟩) (by omega) _ ?_
        exact ⟨rfl, rfl, (by first | rfl | exact slLen (by simp []) | exact intEq (by omega) | exact intEq (by simp []) | exact slLen (by simp []; omega)), (by first | rfl | exact slLen (by simp []) | exact intEq (by omega) | exact intEq (by simp []) | exact slLen (by simp []; omega)), (by first | rfl | exact slLen (by simp []) | exact intEq (by omega) | exact intEq (by simp []) | exact slLen (by simp []; omega)), trivial⟩
    · intro hc2
      have hc2 : ¬ (lowerF ((fs.getD k (([], []) : List UInt8 × List UInt8)).1) = lowerF nm) := of_decide_eq_false hc2
      refine At.skip ?_
      refine At.inBlock ?_
      refine At.region ?_
      refine AtL.move (.inl rfl) rfl rfl ?_
      refine AtL.add (z := (k : Int) + 1) (.inl rfl) rfl rfl rfl (w64 (by omega) (by omega)) ?_
      refine AtL.assign (.inl rfl) rfl rfl ?_
      refine AtL.done ?_
      refine ihL1 (k + 1) val n (⟨by omega, by rw [allF_snoc _ _ (by omega), if_neg hc2, List.append_nil]; exact hv, by rw [allF_snoc _ _ (by omega), if_neg hc2, List.append_nil]; exact hn⟩) (by omega) _ ?_
      exact ⟨rfl, rfl, (by first | rfl | exact slLen (by simp []) | exact intEq (by omega) | exact intEq (by simp []) | exact slLen (by simp []; omega)), (by first | rfl | exact slLen (by simp []) | exact intEq (by omega) | exact intEq (by simp []) | exact slLen (by simp []; omega)), (by first | rfl | exact slLen (by simp []) | exact intEq (by omega) | exact intEq (by simp []) | exact slLen (by simp []; omega)), trivial⟩
  · intro hc1
    have hc1 : ¬ ((k : Int) < (fs.length : Int)) := of_decide_eq_false hc1
    refine At.exit rfl ?_
    refine At.seq ?_
    refine At.region ?_
    refine AtL.move (.inl rfl) rfl rfl ?_
    refine AtL.move (.inl rfl) rfl rfl ?_
    refine AtL.assign (.inl rfl) rfl rfl ?_
    refine AtL.assign (.inl rfl) rfl rfl ?_
    refine AtL.done ?_
    refine At.pick (H' := H) [] 1 rfl rfl ?_
    exact At.ret Tryd.func54 rfl rfl (⟨by rw [List.take_of_length_le (show fs.length ≤ k by omega)] at hv hn; rw [fieldF, hv, hn]; rfl, rfl⟩)

end Go.Proofs.YtlfkoimkojbghaaDoor
