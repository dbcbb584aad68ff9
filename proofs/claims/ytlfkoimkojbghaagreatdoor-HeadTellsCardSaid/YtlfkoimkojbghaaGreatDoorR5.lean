/- The answer beside heads: Length. -/
import Derived.Test.YtlfkoimkojbghaaGreatDoorI2
namespace Go.Proofs.YtlfkoimkojbghaaGreatDoor
set_option linter.unusedVariables false
set_option linter.unusedSimpArgs false
set_option maxRecDepth 100000

theorem all_mem {fs : List Fld} {nm : List UInt8} {f : Fld} (hf : f ∈ fs) (hn : lowerF f.1 = lowerF nm) : f.2 ∈ allF fs nm := List.mem_map.2 ⟨f, List.mem_filter.2 ⟨hf, by simpa using hn⟩, rfl⟩
theorem len_bad2 {fs : List Fld} (h : ¬ (0 : Int) < ((fieldF fs [116, 114, 97, 110, 115, 102, 101, 114, 45, 101, 110, 99, 111, 100, 105, 110, 103]).2 : Int)) {f : Fld} (hf : f ∈ fs) (hn : lowerF f.1 = lowerF [99, 111, 110, 116, 101, 110, 116, 45, 108, 101, 110, 103, 116, 104]) (hv : ¬ f.2 = (fieldF fs [99, 111, 110, 116, 101, 110, 116, 45, 108, 101, 110, 103, 116, 104]).1) : lengthF fs = (0, 400) := by
  have hm := all_mem hf hn
  obtain ⟨k, hk⟩ := List.mem_iff_getElem?.1 hm
  have hkl := (List.getElem?_eq_some_iff.1 hk).1
  have e : (allF fs [99, 111, 110, 116, 101, 110, 116, 45, 108, 101, 110, 103, 116, 104]).getD k [] = f.2 := by simp [List.getD, hk]
  refine len_bad h rfl hkl (.inr ?_)
  rw [e]
  intro h2
  exact hv (by rw [h2, fieldF]; cases allF fs [99, 111, 110, 116, 101, 110, 116, 45, 108, 101, 110, 103, 116, 104] <;> rfl)
theorem first_get {fs : List Fld} {nm : List UInt8} : (fieldF fs nm).1 = (allF fs nm).getD 0 [] := by rw [fieldF]; cases allF fs nm <;> rfl
theorem all_first {fs : List Fld} (hall : ∀ f ∈ fs, lowerF f.1 = lowerF [99, 111, 110, 116, 101, 110, 116, 45, 108, 101, 110, 103, 116, 104] → f.2 = (fieldF fs [99, 111, 110, 116, 101, 110, 116, 45, 108, 101, 110, 103, 116, 104]).1) : ∀ k, k < (allF fs [99, 111, 110, 116, 101, 110, 116, 45, 108, 101, 110, 103, 116, 104]).length → (allF fs [99, 111, 110, 116, 101, 110, 116, 45, 108, 101, 110, 103, 116, 104]).getD k [] = (allF fs [99, 111, 110, 116, 101, 110, 116, 45, 108, 101, 110, 103, 116, 104]).getD 0 [] := by
  intro k hk
  have hm := getD_mem (l := allF fs [99, 111, 110, 116, 101, 110, 116, 45, 108, 101, 110, 103, 116, 104]) (i := k) (d := ([] : List UInt8)) hk
  obtain ⟨f, hf, he⟩ := List.mem_map.1 hm
  obtain ⟨h1, h2⟩ := List.mem_filter.1 hf
  rw [← he, ← first_get]
  exact hall f h1 (by simpa using h2)
theorem size_bad {s : List UInt8} {k : Nat} (hk : k < s.length) (h : ¬ (48 ≤ ((s.getD k 0).toNat : Int) ∧ ((s.getD k 0).toNat : Int) ≤ 57)) : (sizeF s).isSome = false := by
  rw [sizeF]
  split
  · rw [Lib.decNat]
    split
    · rfl
    · rw [dec_all]
      exact all_bad (p := fun c => decide (48 ≤ c.toNat ∧ c.toNat ≤ 57)) hk (decide_eq_false (by omega))
  · rfl
theorem size_end {s : List UInt8} {n : Nat} (h0 : s ≠ []) (h1 : s.length ≤ 10) (h : Lib.decFrom 0 s = some n) : sizeF s = some n := by
  rw [sizeF, if_pos h1, Lib.decNat, if_neg (by cases s <;> simp_all), h]
theorem nat48 {c : UInt8} (hd : 48 ≤ (c.toNat : Int) ∧ (c.toNat : Int) ≤ 57) : (c - 48).toNat = c.toNat - 48 := by
  have := sub48 (c := c) hd
  have h2 : IntKind.u8.wrap ((c.toNat : Int) - 48) = (c.toNat : Int) - 48 := w8 (by omega) (by omega)
  omega
theorem dec_step {s : List UInt8} {k n : Nat} (hk : k < s.length) (h : Lib.decFrom 0 (s.take k) = some n) (hd : 48 ≤ ((s.getD k 0).toNat : Int) ∧ ((s.getD k 0).toNat : Int) ≤ 57) : Lib.decFrom 0 (s.take (k + 1)) = some (10 * n + ((s.getD k 0) - 48).toNat) := by
  rw [take_succ_d s k hk]
  have h48 : ((s.getD k 0) - 48).toNat = (s.getD k 0).toNat - 48 := by
    have := sub48 (c := s.getD k 0) hd
    have h2 : IntKind.u8.wrap (((s.getD k 0).toNat : Int) - 48) = ((s.getD k 0).toNat : Int) - 48 := w8 (by omega) (by omega)
    omega
  refine decFrom_app _ _ 0 n _ ((s.getD k 0).toNat - 48) h ?_ (by rw [h48]; omega)
  rw [Lib.digitVal, if_pos (by omega)]

set_option maxHeartbeats 400000 in
theorem rlength_ok {w0 : World} {base : Nat} {H : List Seg} {m t : List UInt8} {minor : Int} {A : Option Addr} {C : Nat} {fs : List (List UInt8 × List UInt8)} (h : Rd tyField w0 base H A C fs) (hfl : fs.length ≤ 1000) (hb : ∀ f ∈ fs, f.1.length ≤ 140737488355000 ∧ f.2.length ≤ 140737488355000) :
    SCalls Tryz.prog 53 [.agg #[str m, str t, .int .i64 minor, .slice A fs.length C]] w0 base (H) (fun v H' => v = .tuple #[int (lengthF fs).1, int (lengthF fs).2] ∧ H' = H) := by
  have hle0 := h.le
  have hcap0 := h.cap
  refine SCalls.of_walk (n := 79) Tryz.func53 rfl rfl rfl fun cs => ?_
  refine At.seq ?_
  refine At.region ?_
  refine AtL.box (cs := #[str m, str t, .int .i64 minor, .slice A fs.length C]) rfl (.inl rfl) rfl rfl ?_
  intro b1
  refine AtL.assign (.inl rfl) rfl rfl ?_
  refine AtL.assign (.inl rfl) rfl rfl ?_
  refine AtL.done ?_
  refine At.seq ?_
  refine At.region ?_
  refine AtL.loadN (cs := [str m, str t, .int .i64 minor, .slice A fs.length C]) tf_agg35 (.inl rfl) rfl rfl rfl (cellsOwn 0 0 0 rfl rfl rfl) ?_
  refine AtL.call tf_body52 (.inl rfl) rfl rfl (rfield_ok (m := m) (t := t) (minor := minor) (fs := fs) (Rd.skip 1 h) (nm := [116, 114, 97, 110, 115, 102, 101, 114, 45, 101, 110, 99, 111, 100, 105, 110, 103]) (by decide) hfl hb) ?_
  rintro _ _ ⟨rfl, rfl⟩
  refine AtL.move (.inl rfl) rfl rfl ?_
  refine AtL.extract (.inl rfl) rfl rfl rfl ?_
  refine AtL.extract (.inl rfl) rfl rfl rfl ?_
  refine AtL.assign (.inl rfl) rfl rfl ?_
  refine AtL.assign (.inl rfl) rfl rfl ?_
  refine AtL.done ?_
  refine At.seq ?_
  refine At.seq ?_
  refine At.region ?_
  refine AtL.move (.inl rfl) rfl rfl ?_
  refine AtL.gtr (.inl rfl) rfl rfl rfl ?_
  refine AtL.done ?_
  refine At.cond rfl ?_ ?_
  · intro hc1
    have hc1 : 0 < ((fieldF fs [116, 114, 97, 110, 115, 102, 101, 114, 45, 101, 110, 99, 111, 100, 105, 110, 103]).2 : Int) := of_decide_eq_true hc1
    refine At.seq ?_
    refine At.region ?_
    refine AtL.assign (.inl rfl) rfl rfl ?_
    refine AtL.assign (.inl rfl) rfl rfl ?_
    refine AtL.done ?_
    refine At.pick (H' := H) [] 1 rfl rfl ?_
    exact At.ret Tryz.func53 rfl rfl (⟨by rw [len_te hc1]; rfl, rfl⟩)
  · intro hc1
    have hc1 : ¬ (0 < ((fieldF fs [116, 114, 97, 110, 115, 102, 101, 114, 45, 101, 110, 99, 111, 100, 105, 110, 103]).2 : Int)) := of_decide_eq_false hc1
    refine At.skip ?_
    refine At.seq ?_
    refine At.region ?_
    refine AtL.loadN (cs := [str m, str t, .int .i64 minor, .slice A fs.length C]) tf_agg35 (.inl rfl) rfl rfl rfl (cellsOwn 0 0 0 rfl rfl rfl) ?_
    refine AtL.call tf_body52 (.inl rfl) rfl rfl (rfield_ok (m := m) (t := t) (minor := minor) (fs := fs) (Rd.skip 1 h) (nm := [99, 111, 110, 116, 101, 110, 116, 45, 108, 101, 110, 103, 116, 104]) (by decide) hfl hb) ?_
    rintro _ _ ⟨rfl, rfl⟩
    refine AtL.move (.inl rfl) rfl rfl ?_
    refine AtL.extract (.inl rfl) rfl rfl rfl ?_
    refine AtL.extract (.inl rfl) rfl rfl rfl ?_
    refine AtL.assign (.inl rfl) rfl rfl ?_
    refine AtL.assign (.inl rfl) rfl rfl ?_
    refine AtL.done ?_
    refine At.seq ?_
    refine At.seq ?_
    refine At.region ?_
    refine AtL.move (.inl rfl) rfl rfl ?_
    refine AtL.eqi (.inl rfl) rfl rfl rfl ?_
    refine AtL.done ?_
    refine At.cond rfl ?_ ?_
    · intro hc2
      have hc2 : ((fieldF fs [99, 111, 110, 116, 101, 110, 116, 45, 108, 101, 110, 103, 116, 104]).2 : Int) = 0 := of_decide_eq_true hc2
      refine At.seq ?_
      refine At.region ?_
      refine AtL.assign (.inl rfl) rfl rfl ?_
      refine AtL.assign (.inl rfl) rfl rfl ?_
      refine AtL.done ?_
      refine At.pick (H' := H) [] 1 rfl rfl ?_
      exact At.ret Tryz.func53 rfl rfl (⟨by rw [len_no hc1 rfl (List.eq_nil_of_length_eq_zero (by rw [fieldF] at hc2; simpa using hc2))]; rfl, rfl⟩)
    · intro hc2
      have hc2 : ¬ (((fieldF fs [99, 111, 110, 116, 101, 110, 116, 45, 108, 101, 110, 103, 116, 104]).2 : Int) = 0) := of_decide_eq_false hc2
      refine At.skip ?_
      refine At.seq ?_
      refine At.seq ?_
      refine At.region ?_
      refine AtL.assign (.inl rfl) rfl rfl ?_
      refine AtL.done ?_
      refine At.block ?_
      refine At.loop (fun (k : Nat) => [(1, .pointer (some ⟨b1, 0, none⟩)), (6, str ((fieldF fs [99, 111, 110, 116, 101, 110, 116, 45, 108, 101, 110, 103, 116, 104]).1)), (8, .int .i64 (k : Int))]) (fun (k : Nat) => [(b1, .cells #[str m, str t, .int .i64 minor, .slice A fs.length C] 35 (0, 0))] :: H) (fun (k : Nat) => k ≤ fs.length ∧ ∀ f ∈ fs.take k, lowerF f.1 = lowerF [99, 111, 110, 116, 101, 110, 116, 45, 108, 101, 110, 103, 116, 104] → f.2 = (fieldF fs [99, 111, 110, 116, 101, 110, 116, 45, 108, 101, 110, 103, 116, 104]).1) (fun (k : Nat) => fs.length - k) 0 (⟨Nat.zero_le _, fun f hf => absurd hf (by simp)⟩) ⟨rfl, rfl, rfl, trivial⟩ rfl ?_
      rintro k ⟨hk, hall⟩ ihL1
      refine At.seq ?_
      refine At.seq ?_
      refine At.region ?_
      refine AtL.move (.inl rfl) rfl rfl ?_
      refine AtL.fieldAddrB tf_fo35_3 (.inl rfl) rfl rfl rfl ?_
      refine AtL.load tf_flat33 (.inl rfl) rfl rfl (Cell.own 0 0 rfl rfl rfl) ?_
      refine AtL.lenL Tryz.underlying33 (.inl rfl) rfl rfl ?_
      refine AtL.lss (.inl rfl) rfl rfl rfl ?_
      refine AtL.done ?_
      refine At.cond rfl ?_ ?_
      · intro hc3
        have hc3 : (k : Int) < (fs.length : Int) := of_decide_eq_true hc3
        have hbk := hb _ (getD_mem (l := fs) (i := k) (d := (([], []) : List UInt8 × List UInt8)) (by omega))
        refine At.skip ?_
        refine At.seq ?_
        refine At.block ?_
        refine At.seq ?_
        refine At.region ?_
        refine AtL.fieldAddrB tf_fo35_3 (.inl rfl) rfl rfl rfl ?_
        refine AtL.load tf_flat33 (.inl rfl) rfl rfl (Cell.own 0 0 rfl rfl rfl) ?_
        refine AtL.move (.inl rfl) rfl rfl ?_
        refine AtL.indexL k (Rd.skip 1 h) Tryz.underlying33 tf_sz52 (.inl rfl) rfl rfl rfl rfl (by omega) ?_
        refine AtL.fieldAddr tf_fo52_0 (.inl rfl) rfl rfl ?_
        refine AtL.load (v := str ((fs.getD k (([], []) : List UInt8 × List UInt8)).1)) tf_flat9 (.inl rfl) rfl rfl (Rd.cell_at (Rd.skip 1 h) (j := 0) (getD_some (([], []) : List UInt8 × List UInt8) (by omega)) rfl) ?_
        refine AtL.call tf_body101 (.inl rfl) rfl rfl (rsame_ok (a := (fs.getD k (([], []) : List UInt8 × List UInt8)).1) (b := [99, 111, 110, 116, 101, 110, 116, 45, 108, 101, 110, 103, 116, 104]) (by omega) (by decide)) ?_
        rintro _ _ ⟨rfl, rfl⟩
        refine AtL.move (.inl rfl) rfl rfl ?_
        refine AtL.join 9 (E' := [(48, .bool (decide ((lowerF ((fs.getD k (([], []) : List UInt8 × List UInt8)).1) = lowerF [99, 111, 110, 116, 101, 110, 116, 45, 108, 101, 110, 103, 116, 104]) ∧ (¬ ((fs.getD k (([], []) : List UInt8 × List UInt8)).2 = (fieldF fs [99, 111, 110, 116, 101, 110, 116, 45, 108, 101, 110, 103, 116, 104]).1))))), (1, .pointer (some ⟨b1, 0, none⟩)), (6, str ((fieldF fs [99, 111, 110, 116, 101, 110, 116, 45, 108, 101, 110, 103, 116, 104]).1)), (8, .int .i64 (k : Int))]) (H' := [(b1, .cells #[str m, str t, .int .i64 minor, .slice A fs.length C] 35 (0, 0))] :: H) (fun J => ?_) ?_
        · refine AtL.split (t := 39) rfl ?_ ?_
          · intro hs39
            have hs39 : lowerF ((fs.getD k (([], []) : List UInt8 × List UInt8)).1) = lowerF [99, 111, 110, 116, 101, 110, 116, 45, 108, 101, 110, 103, 116, 104] := of_decide_eq_true hs39
            refine AtL.fieldAddrB tf_fo35_3 (.inr ⟨_, _, _, rfl, rfl, rfl, rfl⟩) rfl rfl rfl ?_
            refine AtL.load tf_flat33 (.inr ⟨_, _, _, rfl, rfl, rfl, rfl⟩) rfl rfl (Cell.own 0 0 rfl rfl rfl) ?_
            refine AtL.move (.inr ⟨_, _, _, rfl, rfl, rfl, rfl⟩) rfl rfl ?_
            refine AtL.indexL k (Rd.skip 1 h) Tryz.underlying33 tf_sz52 (.inr ⟨_, _, _, rfl, rfl, rfl, rfl⟩) rfl rfl rfl rfl (by omega) ?_
            refine AtL.fieldAddr tf_fo52_1 (.inr ⟨_, _, _, rfl, rfl, rfl, rfl⟩) rfl rfl ?_
            refine AtL.load (v := str ((fs.getD k (([], []) : List UInt8 × List UInt8)).2)) tf_flat9 (.inr ⟨_, _, _, rfl, rfl, rfl, rfl⟩) rfl rfl (Rd.cell_at (Rd.skip 1 h) (j := 1) (getD_some (([], []) : List UInt8 × List UInt8) (by omega)) rfl) ?_
            refine AtL.move (.inr ⟨_, _, _, rfl, rfl, rfl, rfl⟩) rfl rfl ?_
            refine AtL.nes (a := (fs.getD k (([], []) : List UInt8 × List UInt8)).2) (b := (fieldF fs [99, 111, 110, 116, 101, 110, 116, 45, 108, 101, 110, 103, 116, 104]).1) (.inr ⟨_, _, _, rfl, rfl, rfl, rfl⟩) rfl rfl rfl ?_
            refine AtL.pickT (.inl rfl) rfl rfl rfl ?_
            exact J _ (by exact ⟨(boolIs (by clear J; first | (simp [hs39]; done) | (simp_all; done) | grind)), rfl, rfl, rfl, trivial⟩)
          · intro hs39
            have hs39 : ¬ (lowerF ((fs.getD k (([], []) : List UInt8 × List UInt8)).1) = lowerF [99, 111, 110, 116, 101, 110, 116, 45, 108, 101, 110, 103, 116, 104]) := of_decide_eq_false hs39
            refine AtL.skipped rfl rfl rfl rfl rfl rfl ?_
            refine AtL.skipped rfl rfl rfl rfl rfl rfl ?_
            refine AtL.skipped rfl rfl rfl rfl rfl rfl ?_
            refine AtL.skipped rfl rfl rfl rfl rfl rfl ?_
            refine AtL.skipped rfl rfl rfl rfl rfl rfl ?_
            refine AtL.skipped rfl rfl rfl rfl rfl rfl ?_
            refine AtL.skipped rfl rfl rfl rfl rfl rfl ?_
            refine AtL.skipped rfl rfl rfl rfl rfl rfl ?_
            refine AtL.pickF (.inl rfl) rfl rfl rfl ?_
            exact J _ (by exact ⟨(boolIs (by clear J; first | (simp [hs39]; done) | (simp_all; done) | grind)), rfl, rfl, rfl, trivial⟩)
        · skip
          refine AtL.done ?_
          refine At.cond rfl ?_ ?_
          · intro hc4
            have hc4 : (lowerF ((fs.getD k (([], []) : List UInt8 × List UInt8)).1) = lowerF [99, 111, 110, 116, 101, 110, 116, 45, 108, 101, 110, 103, 116, 104]) ∧ (¬ ((fs.getD k (([], []) : List UInt8 × List UInt8)).2 = (fieldF fs [99, 111, 110, 116, 101, 110, 116, 45, 108, 101, 110, 103, 116, 104]).1)) := of_decide_eq_true hc4
            refine At.seq ?_
            refine At.region ?_
            refine AtL.assign (.inl rfl) rfl rfl ?_
            refine AtL.assign (.inl rfl) rfl rfl ?_
            refine AtL.done ?_
            refine At.pick (H' := H) [] 1 rfl rfl ?_
            exact At.ret Tryz.func53 rfl rfl (⟨by rw [len_bad2 hc1 (getD_mem (l := fs) (i := k) (d := (([], []) : List UInt8 × List UInt8)) (by omega)) hc4.1 hc4.2]; rfl, rfl⟩)
          · intro hc4
            have hc4 : ¬ ((lowerF ((fs.getD k (([], []) : List UInt8 × List UInt8)).1) = lowerF [99, 111, 110, 116, 101, 110, 116, 45, 108, 101, 110, 103, 116, 104]) ∧ (¬ ((fs.getD k (([], []) : List UInt8 × List UInt8)).2 = (fieldF fs [99, 111, 110, 116, 101, 110, 116, 45, 108, 101, 110, 103, 116, 104]).1))) := of_decide_eq_false hc4
            refine At.skip ?_
            refine At.inBlock ?_
            refine At.region ?_
            refine AtL.move (.inl rfl) rfl rfl ?_
            refine AtL.add (z := (k : Int) + 1) (.inl rfl) rfl rfl rfl (w64 (by omega) (by omega)) ?_
            refine AtL.assign (.inl rfl) rfl rfl ?_
            refine AtL.done ?_
            refine ihL1 (k + 1) (⟨by omega, fun f hf hn => (by rw [List.take_succ_eq_append_getElem (show k < fs.length by omega)] at hf; rcases List.mem_append.1 hf with hf | hf; exact hall f hf hn; simp only [List.mem_singleton] at hf; have e : f = fs.getD k ([], []) := (by rw [hf]; simp [List.getD, show k < fs.length by omega]); subst e; exact Classical.byContradiction (fun hv => hc4 ⟨hn, hv⟩))⟩) (by omega) _ ?_
            exact ⟨rfl, rfl, (by first | rfl | exact slLen (by simp []) | exact intEq (by omega) | exact intEq (by simp []) | exact slLen (by simp []; omega)), trivial⟩
      · intro hc3
        have hc3 : ¬ ((k : Int) < (fs.length : Int)) := of_decide_eq_false hc3
        refine At.exit rfl ?_
        refine At.seq ?_
        refine At.seq ?_
        refine At.region ?_
        refine AtL.move (.inl rfl) rfl rfl ?_
        refine AtL.lenS (l := (fieldF fs [99, 111, 110, 116, 101, 110, 116, 45, 108, 101, 110, 103, 116, 104]).1) Tryz.underlying9 (.inl rfl) rfl rfl ?_
        refine AtL.lss (.inl rfl) rfl rfl rfl ?_
        refine AtL.move (.inl rfl) rfl rfl ?_
        refine AtL.join 4 (E' := [(56, .bool (decide (((((fieldF fs [99, 111, 110, 116, 101, 110, 116, 45, 108, 101, 110, 103, 116, 104]).1).length : Int) < 1) ∨ (10 < (((fieldF fs [99, 111, 110, 116, 101, 110, 116, 45, 108, 101, 110, 103, 116, 104]).1).length : Int))))), (6, str ((fieldF fs [99, 111, 110, 116, 101, 110, 116, 45, 108, 101, 110, 103, 116, 104]).1))]) (H' := [(b1, .cells #[str m, str t, .int .i64 minor, .slice A fs.length C] 35 (0, 0))] :: H) (fun J => ?_) ?_
        · refine AtL.split (t := 52) rfl ?_ ?_
          · intro hs52
            have hs52 : (((fieldF fs [99, 111, 110, 116, 101, 110, 116, 45, 108, 101, 110, 103, 116, 104]).1).length : Int) < 1 := of_decide_eq_true hs52
            refine AtL.skipped rfl rfl rfl rfl rfl rfl ?_
            refine AtL.skipped rfl rfl rfl rfl rfl rfl ?_
            refine AtL.skipped rfl rfl rfl rfl rfl rfl ?_
            refine AtL.pickT (.inl rfl) rfl rfl rfl ?_
            exact J _ (by exact ⟨(boolIs (by clear J; first | (simp [hs52]; done) | (simp_all; done) | grind)), rfl, trivial⟩)
          · intro hs52
            have hs52 : ¬ ((((fieldF fs [99, 111, 110, 116, 101, 110, 116, 45, 108, 101, 110, 103, 116, 104]).1).length : Int) < 1) := of_decide_eq_false hs52
            refine AtL.move (.inr ⟨_, _, _, rfl, rfl, rfl, rfl⟩) rfl rfl ?_
            refine AtL.lenS (l := (fieldF fs [99, 111, 110, 116, 101, 110, 116, 45, 108, 101, 110, 103, 116, 104]).1) Tryz.underlying9 (.inr ⟨_, _, _, rfl, rfl, rfl, rfl⟩) rfl rfl ?_
            refine AtL.gtr (.inr ⟨_, _, _, rfl, rfl, rfl, rfl⟩) rfl rfl rfl ?_
            refine AtL.pickF (.inl rfl) rfl rfl rfl ?_
            exact J _ (by exact ⟨(boolIs (by clear J; first | (simp [hs52]; done) | (simp_all; done) | grind)), rfl, trivial⟩)
        · skip
          refine AtL.done ?_
          refine At.cond rfl ?_ ?_
          · intro hc5
            have hc5 : ((((fieldF fs [99, 111, 110, 116, 101, 110, 116, 45, 108, 101, 110, 103, 116, 104]).1).length : Int) < 1) ∨ (10 < (((fieldF fs [99, 111, 110, 116, 101, 110, 116, 45, 108, 101, 110, 103, 116, 104]).1).length : Int)) := of_decide_eq_true hc5
            refine At.seq ?_
            refine At.region ?_
            refine AtL.assign (.inl rfl) rfl rfl ?_
            refine AtL.assign (.inl rfl) rfl rfl ?_
            refine AtL.done ?_
            refine At.pick (H' := H) [] 1 rfl rfl ?_
            exact At.ret Tryz.func53 rfl rfl (⟨by rw [len_bad hc1 rfl (k := 0) (by have h0 : (fieldF fs [99, 111, 110, 116, 101, 110, 116, 45, 108, 101, 110, 103, 116, 104]).2 = (allF fs [99, 111, 110, 116, 101, 110, 116, 45, 108, 101, 110, 103, 116, 104]).length := rfl; omega) (.inl (by rw [← first_get, sizeF]; split; rw [Lib.decNat, if_pos (by rw [List.isEmpty_iff]; exact List.eq_nil_of_length_eq_zero (by omega))]; rfl; rfl))]; rfl, rfl⟩)
          · intro hc5
            have hc5 : ¬ (((((fieldF fs [99, 111, 110, 116, 101, 110, 116, 45, 108, 101, 110, 103, 116, 104]).1).length : Int) < 1) ∨ (10 < (((fieldF fs [99, 111, 110, 116, 101, 110, 116, 45, 108, 101, 110, 103, 116, 104]).1).length : Int))) := of_decide_eq_false hc5
            refine At.skip ?_
            refine At.seq ?_
            refine At.region ?_
            refine AtL.assign (.inl rfl) rfl rfl ?_
            refine AtL.done ?_
            refine At.seq ?_
            refine At.seq ?_
            refine At.region ?_
            refine AtL.assign (.inl rfl) rfl rfl ?_
            refine AtL.done ?_
            refine At.block ?_
            rw [List.take_of_length_le (by omega)] at hall
            have hF : ((fieldF fs [99, 111, 110, 116, 101, 110, 116, 45, 108, 101, 110, 103, 116, 104]).1).length ≤ 10 := by omega
            refine At.loop2 (fun (k : Nat) (n : Nat) => [(6, str ((fieldF fs [99, 111, 110, 116, 101, 110, 116, 45, 108, 101, 110, 103, 116, 104]).1)), (9, .int .i64 (n : Int)), (10, .int .i64 (k : Int))]) (fun (k : Nat) (n : Nat) => [(b1, .cells #[str m, str t, .int .i64 minor, .slice A fs.length C] 35 (0, 0))] :: H) (fun (k : Nat) (n : Nat) => k ≤ ((fieldF fs [99, 111, 110, 116, 101, 110, 116, 45, 108, 101, 110, 103, 116, 104]).1).length ∧ Lib.decFrom 0 (((fieldF fs [99, 111, 110, 116, 101, 110, 116, 45, 108, 101, 110, 103, 116, 104]).1).take k) = some n ∧ n < 10 ^ k) (fun (k : Nat) (n : Nat) => ((fieldF fs [99, 111, 110, 116, 101, 110, 116, 45, 108, 101, 110, 103, 116, 104]).1).length - k) 0 0 (⟨Nat.zero_le _, rfl, by decide⟩) ⟨rfl, rfl, rfl, trivial⟩ rfl ?_
            rintro k n ⟨hk, hdec, hn⟩ ihL2
            have hp10 : (10 : Nat) ^ k ≤ 10 ^ 10 := Nat.pow_le_pow_right (by decide) (by omega)
            have hp11 : (10 : Nat) ^ 10 = 10000000000 := by decide
            refine At.seq ?_
            refine At.seq ?_
            refine At.region ?_
            refine AtL.move (.inl rfl) rfl rfl ?_
            refine AtL.move (.inl rfl) rfl rfl ?_
            refine AtL.lenS (l := (fieldF fs [99, 111, 110, 116, 101, 110, 116, 45, 108, 101, 110, 103, 116, 104]).1) Tryz.underlying9 (.inl rfl) rfl rfl ?_
            refine AtL.lss (.inl rfl) rfl rfl rfl ?_
            refine AtL.done ?_
            refine At.cond rfl ?_ ?_
            · intro hc6
              have hc6 : (k : Int) < (((fieldF fs [99, 111, 110, 116, 101, 110, 116, 45, 108, 101, 110, 103, 116, 104]).1).length : Int) := of_decide_eq_true hc6
              refine At.skip ?_
              refine At.seq ?_
              refine At.block ?_
              refine At.seq ?_
              refine At.seq ?_
              refine At.region ?_
              refine AtL.move (.inl rfl) rfl rfl ?_
              refine AtL.move (.inl rfl) rfl rfl ?_
              refine AtL.indexS (l := (fieldF fs [99, 111, 110, 116, 101, 110, 116, 45, 108, 101, 110, 103, 116, 104]).1) k rfl (by omega) Tryz.underlying9 (.inl rfl) rfl rfl rfl ?_
              refine AtL.call tf_body102 (.inl rfl) rfl rfl (rdigit_ok (((fieldF fs [99, 111, 110, 116, 101, 110, 116, 45, 108, 101, 110, 103, 116, 104]).1).getD k 0)) ?_
              rintro _ _ ⟨rfl, rfl⟩
              refine AtL.not (.inl rfl) rfl rfl ?_
              refine AtL.done ?_
              refine At.cond rfl ?_ ?_
              · intro hc7
                have hc7 : ¬ (48 ≤ ((((fieldF fs [99, 111, 110, 116, 101, 110, 116, 45, 108, 101, 110, 103, 116, 104]).1).getD k 0).toNat : Int) ∧ ((((fieldF fs [99, 111, 110, 116, 101, 110, 116, 45, 108, 101, 110, 103, 116, 104]).1).getD k 0).toNat : Int) ≤ 57) := of_decide_eq_false (bnot_true hc7)
                refine At.seq ?_
                refine At.region ?_
                refine AtL.assign (.inl rfl) rfl rfl ?_
                refine AtL.assign (.inl rfl) rfl rfl ?_
                refine AtL.done ?_
                refine At.pick (H' := H) [] 1 rfl rfl ?_
                exact At.ret Tryz.func53 rfl rfl (⟨by rw [len_bad hc1 rfl (k := 0) (by have h0 : (fieldF fs [99, 111, 110, 116, 101, 110, 116, 45, 108, 101, 110, 103, 116, 104]).2 = (allF fs [99, 111, 110, 116, 101, 110, 116, 45, 108, 101, 110, 103, 116, 104]).length := rfl; omega) (.inl (by rw [← first_get]; exact size_bad (k := k) (by omega) hc7))]; rfl, rfl⟩)
              · intro hc7
                have hc7 : 48 ≤ ((((fieldF fs [99, 111, 110, 116, 101, 110, 116, 45, 108, 101, 110, 103, 116, 104]).1).getD k 0).toNat : Int) ∧ ((((fieldF fs [99, 111, 110, 116, 101, 110, 116, 45, 108, 101, 110, 103, 116, 104]).1).getD k 0).toNat : Int) ≤ 57 := of_decide_eq_true (bnot_false hc7)
                refine At.skip ?_
                refine At.region ?_
                refine AtL.move (.inl rfl) rfl rfl ?_
                refine AtL.mul (z := 10 * (n : Int)) (.inl rfl) rfl rfl rfl (w64 (by omega) (by omega)) ?_
                refine AtL.move (.inl rfl) rfl rfl ?_
                refine AtL.move (.inl rfl) rfl rfl ?_
                refine AtL.indexS (l := (fieldF fs [99, 111, 110, 116, 101, 110, 116, 45, 108, 101, 110, 103, 116, 104]).1) k rfl (by omega) Tryz.underlying9 (.inl rfl) rfl rfl rfl ?_
                refine AtL.sub (z := ((((fieldF fs [99, 111, 110, 116, 101, 110, 116, 45, 108, 101, 110, 103, 116, 104]).1).getD k 0 - 48 : UInt8).toNat : Int)) (.inl rfl) rfl rfl rfl (sub48 hc7) ?_
                have hB2 := u8_le ((((fieldF fs [99, 111, 110, 116, 101, 110, 116, 45, 108, 101, 110, 103, 116, 104]).1).getD k 0 - 48 : UInt8))
                refine AtL.convInt (z := ((((fieldF fs [99, 111, 110, 116, 101, 110, 116, 45, 108, 101, 110, 103, 116, 104]).1).getD k 0 - 48 : UInt8).toNat : Int)) Tryz.underlying5 Tryz.underlying3 (.inl rfl) rfl rfl (u8_i64 _) ?_
                refine AtL.add (z := (10 * (n : Int)) + ((((fieldF fs [99, 111, 110, 116, 101, 110, 116, 45, 108, 101, 110, 103, 116, 104]).1).getD k 0 - 48 : UInt8).toNat : Int)) (.inl rfl) rfl rfl rfl (w64 (by omega) (by omega)) ?_
                refine AtL.assign (.inl rfl) rfl rfl ?_
                refine AtL.done ?_
                refine At.inBlock ?_
                refine At.region ?_
                refine AtL.move (.inl rfl) rfl rfl ?_
                refine AtL.add (z := (k : Int) + 1) (.inl rfl) rfl rfl rfl (w64 (by omega) (by omega)) ?_
                refine AtL.assign (.inl rfl) rfl rfl ?_
                refine AtL.done ?_
                refine ihL2 (k + 1) ((10 * n) + ((((fieldF fs [99, 111, 110, 116, 101, 110, 116, 45, 108, 101, 110, 103, 116, 104]).1).getD k 0 - 48 : UInt8).toNat)) (⟨by omega, dec_step (by omega) hdec hc7, by have h48 := nat48 hc7; rw [Nat.pow_succ]; omega⟩) (by omega) _ ?_
                exact ⟨rfl, (by first | rfl | exact slLen (by simp []) | exact intEq (by omega) | exact intEq (by simp []) | exact slLen (by simp []; omega)), (by first | rfl | exact slLen (by simp []) | exact intEq (by omega) | exact intEq (by simp []) | exact slLen (by simp []; omega)), trivial⟩
            · intro hc6
              have hc6 : ¬ ((k : Int) < (((fieldF fs [99, 111, 110, 116, 101, 110, 116, 45, 108, 101, 110, 103, 116, 104]).1).length : Int)) := of_decide_eq_false hc6
              refine At.exit rfl ?_
              refine At.seq ?_
              refine At.seq ?_
              refine At.region ?_
              refine AtL.move (.inl rfl) rfl rfl ?_
              refine AtL.gtr (.inl rfl) rfl rfl rfl ?_
              refine AtL.done ?_
              refine At.cond rfl ?_ ?_
              · intro hc8
                have hc8 : 65535 < (n : Int) := of_decide_eq_true hc8
                refine At.seq ?_
                refine At.region ?_
                refine AtL.assign (.inl rfl) rfl rfl ?_
                refine AtL.assign (.inl rfl) rfl rfl ?_
                refine AtL.done ?_
                refine At.pick (H' := H) [] 1 rfl rfl ?_
                have hsz : sizeF ((allF fs [99, 111, 110, 116, 101, 110, 116, 45, 108, 101, 110, 103, 116, 104]).getD 0 []) = some n := by rw [← first_get]; rw [List.take_of_length_le (by omega)] at hdec; exact size_end (fun h => by rw [h] at hc5; simp at hc5) hF hdec
                have hlen0 := len_ok hc1 rfl (by have h0 : (fieldF fs [99, 111, 110, 116, 101, 110, 116, 45, 108, 101, 110, 103, 116, 104]).2 = (allF fs [99, 111, 110, 116, 101, 110, 116, 45, 108, 101, 110, 103, 116, 104]).length := rfl; omega) (all_first hall) hsz
                exact At.ret Tryz.func53 rfl rfl (⟨by rw [hlen0, if_pos (by omega)]; rfl, rfl⟩)
              · intro hc8
                have hc8 : ¬ (65535 < (n : Int)) := of_decide_eq_false hc8
                refine At.skip ?_
                refine At.seq ?_
                refine At.region ?_
                refine AtL.move (.inl rfl) rfl rfl ?_
                refine AtL.assign (.inl rfl) rfl rfl ?_
                refine AtL.assign (.inl rfl) rfl rfl ?_
                refine AtL.done ?_
                refine At.pick (H' := H) [] 1 rfl rfl ?_
                have hsz : sizeF ((allF fs [99, 111, 110, 116, 101, 110, 116, 45, 108, 101, 110, 103, 116, 104]).getD 0 []) = some n := by rw [← first_get]; rw [List.take_of_length_le (by omega)] at hdec; exact size_end (fun h => by rw [h] at hc5; simp at hc5) hF hdec
                have hlen0 := len_ok hc1 rfl (by have h0 : (fieldF fs [99, 111, 110, 116, 101, 110, 116, 45, 108, 101, 110, 103, 116, 104]).2 = (allF fs [99, 111, 110, 116, 101, 110, 116, 45, 108, 101, 110, 103, 116, 104]).length := rfl; omega) (all_first hall) hsz
                exact At.ret Tryz.func53 rfl rfl (⟨by rw [hlen0, if_neg (by omega)]; rfl, rfl⟩)

end Go.Proofs.YtlfkoimkojbghaaGreatDoor
