/- Heads: Length. -/
import Derived.Test.YtlfkoimkojbghaaGreatDoorR4
namespace Go.Proofs.YtlfkoimkojbghaaGreatDoor
set_option linter.unusedVariables false
set_option linter.unusedSimpArgs false
set_option maxRecDepth 100000

theorem len_te {fs : List Fld} (h : (0 : Int) < ((fieldF fs [116, 114, 97, 110, 115, 102, 101, 114, 45, 101, 110, 99, 111, 100, 105, 110, 103]).2 : Int)) : lengthF fs = (0, 501) := by
  rw [lengthF, if_pos (by show 0 < (fieldF fs [116, 114, 97, 110, 115, 102, 101, 114, 45, 101, 110, 99, 111, 100, 105, 110, 103]).2; omega)]
theorem len_no {fs : List Fld} (h : ¬ (0 : Int) < ((fieldF fs [116, 114, 97, 110, 115, 102, 101, 114, 45, 101, 110, 99, 111, 100, 105, 110, 103]).2 : Int)) {L : List (List UInt8)} (hL : L = allF fs [99, 111, 110, 116, 101, 110, 116, 45, 108, 101, 110, 103, 116, 104]) (h0 : L = []) : lengthF fs = (-1, 200) := by
  rw [lengthF, if_neg (by show ¬ 0 < (fieldF fs [116, 114, 97, 110, 115, 102, 101, 114, 45, 101, 110, 99, 111, 100, 105, 110, 103]).2; omega), show allF fs CLEN = [] from hL.symm.trans h0]
theorem len_bad {fs : List Fld} (h : ¬ (0 : Int) < ((fieldF fs [116, 114, 97, 110, 115, 102, 101, 114, 45, 101, 110, 99, 111, 100, 105, 110, 103]).2 : Int)) {L : List (List UInt8)} (hL : L = allF fs [99, 111, 110, 116, 101, 110, 116, 45, 108, 101, 110, 103, 116, 104]) {k : Nat} (hk : k < L.length) (hb : (sizeF (L.getD k [])).isSome = false ∨ ¬ L.getD k [] = L.getD 0 []) : lengthF fs = (0, 400) := by
  rw [lengthF, if_neg (by show ¬ 0 < (fieldF fs [116, 114, 97, 110, 115, 102, 101, 114, 45, 101, 110, 99, 111, 100, 105, 110, 103]).2; omega), show allF fs CLEN = L from hL.symm]
  cases L with
  | nil => simp at hk
  | cons f r =>
    show (if (r.all fun s => decide (s = f)) = true then _ else _) = _
    by_cases hr : (r.all fun s => decide (s = f)) = true
    · rw [if_pos hr]
      have he : (f :: r).getD k [] = f := by
        cases k with
        | zero => rfl
        | succ k =>
          have hm : r.getD k [] ∈ r := getD_mem (by simpa using hk)
          exact of_decide_eq_true (List.all_eq_true.1 hr _ hm)
      rcases hb with hb | hb
      · rw [he] at hb
        cases hq : sizeF f with
        | none => rfl
        | some n => rw [hq] at hb; cases hb
      · exact absurd he hb
    · rw [if_neg hr]
theorem len_ok {fs : List Fld} (h : ¬ (0 : Int) < ((fieldF fs [116, 114, 97, 110, 115, 102, 101, 114, 45, 101, 110, 99, 111, 100, 105, 110, 103]).2 : Int)) {L : List (List UInt8)} (hL : L = allF fs [99, 111, 110, 116, 101, 110, 116, 45, 108, 101, 110, 103, 116, 104]) (h0 : 0 < L.length) (hall : ∀ k, k < L.length → L.getD k [] = L.getD 0 []) {n : Nat} (hn : sizeF (L.getD 0 []) = some n) : lengthF fs = if 65535 < n then (0, 413) else ((n : Int), 200) := by
  rw [lengthF, if_neg (by show ¬ 0 < (fieldF fs [116, 114, 97, 110, 115, 102, 101, 114, 45, 101, 110, 99, 111, 100, 105, 110, 103]).2; omega), show allF fs CLEN = L from hL.symm]
  cases L with
  | nil => simp at h0
  | cons f r =>
    have hn : sizeF f = some n := hn
    show (if (r.all fun s => decide (s = f)) = true then _ else _) = _
    rw [if_pos, hn]
    rw [List.all_eq_true]
    intro x hx
    obtain ⟨j, hj⟩ := List.mem_iff_getElem?.1 hx
    have hjl := (List.getElem?_eq_some_iff.1 hj).1
    have := hall (j + 1) (by simp; omega)
    simp [hj] at this
    simpa using this
theorem size_cond {s : List UInt8} : (sizeF s).isSome = false ↔ ((s = [] ∨ (10 : Int) < (s.length : Int)) ∨ ¬ Lib.trimS s [48, 49, 50, 51, 52, 53, 54, 55, 56, 57] = []) := by
  rw [size_some]
  show (decide (s ≠ []) && decide (s.length ≤ 10) && decide (Lib.trimS s [48, 49, 50, 51, 52, 53, 54, 55, 56, 57] = [])) = false ↔ _
  by_cases h1 : s = []
  · simp [h1]
  · by_cases h2 : s.length ≤ 10
    · by_cases h3 : Lib.trimS s [48, 49, 50, 51, 52, 53, 54, 55, 56, 57] = []
      · simp [h1, h2, h3]; omega
      · simp [h1, h2, h3]
    · have : (10 : Int) < (s.length : Int) := by omega
      simp [h1, h2, this]
theorem atoi_ok {w0 : World} {base : Nat} {H : List Seg} {s : List UInt8} {n : Int} (h : Lib.atoi s = some n) (hs : s.length ≤ 18) : SCalls Tryz.prog 94 [str s] w0 base H (fun v H' => v = .tuple #[int n, .nilIface] ∧ H' = H) := by
  refine SCalls.of_below fun w S => ?_
  refine (Tryz.strconv_Atoi ⟨⟨s⟩⟩ n (by rw [str_size]; exact hs) h w).mono ?_
  rintro e w' ⟨he, t, rfl⟩
  exact ⟨he, Lib.bytesWorld_below _ _ _⟩

set_option maxHeartbeats 400000 in
theorem length_ok {w0 : World} {base : Nat} {H : List Seg} {m t : List UInt8} {minor : Int} {A : Option Addr} {C : Nat} {fs : List (List UInt8 × List UInt8)} (h : Rd tyField w0 base H A C fs) (hfl : fs.length ≤ 1000) (hb : ∀ f ∈ fs, f.1.length ≤ 140737488355000 ∧ f.2.length ≤ 140737488355000) :
    SCalls Tryz.prog 50 [.agg #[str m, str t, .int .i64 minor, .slice A fs.length C]] w0 base (H) (fun v H' => v = .tuple #[int (lengthF fs).1, int (lengthF fs).2] ∧ H' = H) := by
  have hle0 := h.le
  have hcap0 := h.cap
  refine SCalls.of_walk (n := 59) Tryz.func50 rfl rfl rfl fun cs => ?_
  refine At.seq ?_
  refine At.region ?_
  refine AtL.box (cs := #[str m, str t, .int .i64 minor, .slice A fs.length C]) rfl (.inl rfl) rfl rfl ?_
  intro b1
  refine AtL.assign (.inl rfl) rfl rfl ?_
  refine AtL.assign (.inl rfl) rfl rfl ?_
  refine AtL.done ?_
  refine At.seq ?_
  refine At.seq ?_
  refine At.region ?_
  refine AtL.loadN (cs := [str m, str t, .int .i64 minor, .slice A fs.length C]) tf_agg35 (.inl rfl) rfl rfl rfl (cellsOwn 0 0 0 rfl rfl rfl) ?_
  refine AtL.call tf_body51 (.inl rfl) rfl rfl (field_ok (fs := fs) (Rd.skip 1 h) (nm := [116, 114, 97, 110, 115, 102, 101, 114, 45, 101, 110, 99, 111, 100, 105, 110, 103]) (by decide) hfl hb) ?_
  rintro _ _ ⟨rfl, rfl⟩
  refine AtL.move (.inl rfl) rfl rfl ?_
  refine AtL.extract (.inl rfl) rfl rfl rfl ?_
  refine AtL.extract (.inl rfl) rfl rfl rfl ?_
  refine AtL.assign (.inl rfl) rfl rfl ?_
  refine AtL.assign (.inl rfl) rfl rfl ?_
  refine AtL.done ?_
  refine At.seq ?_
  refine At.region ?_
  refine AtL.move (.inl rfl) rfl rfl ?_
  refine AtL.gtr (.inl rfl) rfl rfl rfl ?_
  refine AtL.done ?_
  refine At.cond rfl ?_ ?_
  · intro hc1
    have hc1 : 0 < ((fieldF fs [116, 114, 97, 110, 115, 102, 101, 114, 45, 101, 110, 99, 111, 100, 105, 110, 103]).2 : Int) := of_decide_eq_true hc1
    refine At.seq ?_
    refine At.region ?_
    refine AtL.assign (.inl rfl) rfl rfl ?_
    refine AtL.assign (.inl rfl) rfl rfl ?_
    refine AtL.done ?_
    refine At.pick (H' := H) [] 1 rfl rfl ?_
    exact At.ret Tryz.func50 rfl rfl (⟨by rw [len_te hc1]; rfl, rfl⟩)
  · intro hc1
    have hc1 : ¬ (0 < ((fieldF fs [116, 114, 97, 110, 115, 102, 101, 114, 45, 101, 110, 99, 111, 100, 105, 110, 103]).2 : Int)) := of_decide_eq_false hc1
    refine At.skip ?_
    refine At.seq ?_
    refine At.region ?_
    refine AtL.loadN (cs := [str m, str t, .int .i64 minor, .slice A fs.length C]) tf_agg35 (.inl rfl) rfl rfl rfl (cellsOwn 0 0 0 rfl rfl rfl) ?_
    refine AtL.call tf_body99 (.inl rfl) rfl rfl (all_ok (fs := fs) (Rd.skip 1 h) (nm := [99, 111, 110, 116, 101, 110, 116, 45, 108, 101, 110, 103, 116, 104]) (by decide) hfl hb) ?_
    rintro _ _ ⟨⟨A2, C3, l4, s5, o6⟩, hx7, rfl, rfl⟩
    have hL : l4 = allF fs [99, 111, 110, 116, 101, 110, 116, 45, 108, 101, 110, 103, 116, 104] := hx7
    have hLb : ∀ s ∈ l4, s.length ≤ 140737488355000 := by rw [hL]; intro s hs; obtain ⟨f, hf, rfl⟩ := List.mem_map.1 hs; exact (hb f (List.mem_filter.1 hf).1).2
    have hLc := Own.le_cap o6
    have hLd := Own.cap_le o6
    refine AtL.assign (.inl rfl) rfl rfl ?_
    refine AtL.done ?_
    refine At.seq ?_
    refine At.seq ?_
    refine At.region ?_
    refine AtL.move (.inl rfl) rfl rfl ?_
    refine AtL.lenL Tryz.underlying132 (.inl rfl) rfl rfl ?_
    refine AtL.eqi (.inl rfl) rfl rfl rfl ?_
    refine AtL.done ?_
    refine At.cond rfl ?_ ?_
    · intro hc2
      have hc2 : (l4.length : Int) = 0 := of_decide_eq_true hc2
      refine At.seq ?_
      refine At.region ?_
      refine AtL.assign (.inl rfl) rfl rfl ?_
      refine AtL.assign (.inl rfl) rfl rfl ?_
      refine AtL.done ?_
      refine At.pick (H' := H) [] 2 rfl rfl ?_
      exact At.ret Tryz.func50 rfl rfl (⟨by rw [len_no hc1 hL (List.eq_nil_of_length_eq_zero (by omega))]; rfl, rfl⟩)
    · intro hc2
      have hc2 : ¬ ((l4.length : Int) = 0) := of_decide_eq_false hc2
      refine At.skip ?_
      refine At.seq ?_
      refine At.seq ?_
      refine At.region ?_
      refine AtL.move (.inl rfl) rfl rfl ?_
      refine AtL.lenL Tryz.underlying132 (.inl rfl) rfl rfl ?_
      refine AtL.move (.inl rfl) rfl rfl ?_
      refine AtL.done ?_
      refine At.block ?_
      refine At.loop (fun (k : Nat) => [(6, .slice A2 l4.length C3), (23, .slice A2 l4.length C3), (24, .int .i64 (l4.length : Int)), (25, .int .i64 (k : Int))]) (fun (k : Nat) => s5 :: [(b1, .cells #[str m, str t, .int .i64 minor, .slice A fs.length C] 35 (0, 0))] :: H) (fun (k : Nat) => k ≤ l4.length ∧ ∀ j, j < k → (sizeF (l4.getD j [])).isSome = true ∧ l4.getD j [] = l4.getD 0 []) (fun (k : Nat) => l4.length - k) 0 (⟨Nat.zero_le _, fun j hj => absurd hj (by omega)⟩) ⟨rfl, rfl, rfl, rfl, trivial⟩ rfl ?_
      rintro k ⟨hk, hall⟩ ihL1
      refine At.seq ?_
      refine At.region ?_
      refine AtL.lss (.inl rfl) rfl rfl rfl ?_
      refine AtL.done ?_
      refine At.seq ?_
      refine At.cond rfl ?_ ?_
      · intro hc3
        have hc3 : (k : Int) < (l4.length : Int) := of_decide_eq_true hc3
        refine At.skip ?_
        refine At.seq ?_
        refine At.block ?_
        refine At.seq ?_
        refine At.region ?_
        refine AtL.indexL k (o6.rd (i := 0) rfl) Tryz.underlying132 tf_sz9 (.inl rfl) rfl rfl rfl rfl (by omega) ?_
        refine AtL.load (v := str (l4.getD k [])) tf_flat9 (.inl rfl) rfl rfl (Rd.cell0 (o6.rd (i := 0) rfl) (getD_some [] (by omega)) rfl) ?_
        refine AtL.assign (.inl rfl) rfl rfl ?_
        refine AtL.done ?_
        refine At.seq ?_
        refine At.region ?_
        refine AtL.move (.inl rfl) rfl rfl ?_
        refine AtL.eqs (a := (l4.getD k [])) (b := []) (.inl rfl) rfl rfl rfl ?_
        refine AtL.move (.inl rfl) rfl rfl ?_
        refine AtL.join 4 (E' := [(35, .bool (decide (((l4.getD k []) = []) ∨ (10 < ((l4.getD k []).length : Int))))), (6, .slice A2 l4.length C3), (8, str (l4.getD k [])), (23, .slice A2 l4.length C3), (24, .int .i64 (l4.length : Int)), (25, .int .i64 (k : Int))]) (H' := s5 :: [(b1, .cells #[str m, str t, .int .i64 minor, .slice A fs.length C] 35 (0, 0))] :: H) (fun J => ?_) ?_
        · refine AtL.split (t := 31) rfl ?_ ?_
          · intro hs31
            have hs31 : (l4.getD k []) = [] := of_decide_eq_true hs31
            refine AtL.skipped rfl rfl rfl rfl rfl rfl ?_
            refine AtL.skipped rfl rfl rfl rfl rfl rfl ?_
            refine AtL.skipped rfl rfl rfl rfl rfl rfl ?_
            refine AtL.pickT (.inl rfl) rfl rfl rfl ?_
            exact J _ (by exact ⟨(boolIs (by clear J; first | (simp [hs31]; done) | (simp_all; done) | grind)), rfl, rfl, rfl, rfl, rfl, trivial⟩)
          · intro hs31
            have hs31 : ¬ ((l4.getD k []) = []) := of_decide_eq_false hs31
            refine AtL.move (.inr ⟨_, _, _, rfl, rfl, rfl, rfl⟩) rfl rfl ?_
            refine AtL.lenS (l := (l4.getD k [])) Tryz.underlying9 (.inr ⟨_, _, _, rfl, rfl, rfl, rfl⟩) rfl rfl ?_
            refine AtL.gtr (.inr ⟨_, _, _, rfl, rfl, rfl, rfl⟩) rfl rfl rfl ?_
            refine AtL.pickF (.inl rfl) rfl rfl rfl ?_
            exact J _ (by exact ⟨(boolIs (by clear J; first | (simp [hs31]; done) | (simp_all; done) | grind)), rfl, rfl, rfl, rfl, rfl, trivial⟩)
        · skip
          refine AtL.move (.inl rfl) rfl rfl ?_
          refine AtL.join 4 (E' := [(40, .bool (decide ((((l4.getD k []) = []) ∨ (10 < ((l4.getD k []).length : Int))) ∨ (¬ (Lib.trimS (l4.getD k []) [48, 49, 50, 51, 52, 53, 54, 55, 56, 57] = []))))), (6, .slice A2 l4.length C3), (8, str (l4.getD k [])), (23, .slice A2 l4.length C3), (24, .int .i64 (l4.length : Int)), (25, .int .i64 (k : Int))]) (H' := s5 :: [(b1, .cells #[str m, str t, .int .i64 minor, .slice A fs.length C] 35 (0, 0))] :: H) (fun J => ?_) ?_
          · refine AtL.split (t := 36) rfl ?_ ?_
            · intro hs36
              have hs36 : ((l4.getD k []) = []) ∨ (10 < ((l4.getD k []).length : Int)) := of_decide_eq_true hs36
              refine AtL.skipped rfl rfl rfl rfl rfl rfl ?_
              refine AtL.skipped rfl rfl rfl rfl rfl rfl ?_
              refine AtL.skipped rfl rfl rfl rfl rfl rfl ?_
              refine AtL.pickT (.inl rfl) rfl rfl rfl ?_
              exact J _ (by exact ⟨(boolIs (by clear J; first | (simp [hs36]; done) | (simp_all; done) | grind)), rfl, rfl, rfl, rfl, rfl, trivial⟩)
            · intro hs36
              have hs36 : ¬ (((l4.getD k []) = []) ∨ (10 < ((l4.getD k []).length : Int))) := of_decide_eq_false hs36
              refine AtL.move (.inr ⟨_, _, _, rfl, rfl, rfl, rfl⟩) rfl rfl ?_
              refine AtL.call tf_body100 (.inr ⟨_, _, _, rfl, rfl, rfl, rfl⟩) rfl rfl (trim_ok (x := (l4.getD k [])) (cs := [48, 49, 50, 51, 52, 53, 54, 55, 56, 57]) (by have := hLb _ (getD_mem (l := l4) (i := k) (d := ([] : List UInt8)) (by omega)); omega) (by decide) (by decide)) ?_
              rintro _ _ ⟨rfl, rfl⟩
              refine AtL.nes (a := Lib.trimS (l4.getD k []) [48, 49, 50, 51, 52, 53, 54, 55, 56, 57]) (b := []) (.inr ⟨_, _, _, rfl, rfl, rfl, rfl⟩) rfl rfl rfl ?_
              refine AtL.pickF (.inl rfl) rfl rfl rfl ?_
              exact J _ (by exact ⟨(boolIs (by clear J; first | (simp [hs36]; done) | (simp_all; done) | grind)), rfl, rfl, rfl, rfl, rfl, trivial⟩)
          · skip
            refine AtL.move (.inl rfl) rfl rfl ?_
            refine AtL.join 6 (E' := [(47, .bool (decide (((((l4.getD k []) = []) ∨ (10 < ((l4.getD k []).length : Int))) ∨ (¬ (Lib.trimS (l4.getD k []) [48, 49, 50, 51, 52, 53, 54, 55, 56, 57] = []))) ∨ (¬ ((l4.getD k []) = (l4.getD 0 [])))))), (6, .slice A2 l4.length C3), (23, .slice A2 l4.length C3), (24, .int .i64 (l4.length : Int)), (25, .int .i64 (k : Int))]) (H' := s5 :: [(b1, .cells #[str m, str t, .int .i64 minor, .slice A fs.length C] 35 (0, 0))] :: H) (fun J => ?_) ?_
            · refine AtL.split (t := 41) rfl ?_ ?_
              · intro hs41
                have hs41 : (((l4.getD k []) = []) ∨ (10 < ((l4.getD k []).length : Int))) ∨ (¬ (Lib.trimS (l4.getD k []) [48, 49, 50, 51, 52, 53, 54, 55, 56, 57] = [])) := of_decide_eq_true hs41
                refine AtL.skipped rfl rfl rfl rfl rfl rfl ?_
                refine AtL.skipped rfl rfl rfl rfl rfl rfl ?_
                refine AtL.skipped rfl rfl rfl rfl rfl rfl ?_
                refine AtL.skipped rfl rfl rfl rfl rfl rfl ?_
                refine AtL.skipped rfl rfl rfl rfl rfl rfl ?_
                refine AtL.pickT (.inl rfl) rfl rfl rfl ?_
                exact J _ (by exact ⟨(boolIs (by clear J; first | (simp [hs41]; done) | (simp_all; done) | grind)), rfl, rfl, rfl, rfl, trivial⟩)
              · intro hs41
                have hs41 : ¬ ((((l4.getD k []) = []) ∨ (10 < ((l4.getD k []).length : Int))) ∨ (¬ (Lib.trimS (l4.getD k []) [48, 49, 50, 51, 52, 53, 54, 55, 56, 57] = []))) := of_decide_eq_false hs41
                refine AtL.move (.inr ⟨_, _, _, rfl, rfl, rfl, rfl⟩) rfl rfl ?_
                refine AtL.move (.inr ⟨_, _, _, rfl, rfl, rfl, rfl⟩) rfl rfl ?_
                refine AtL.indexL 0 (o6.rd (i := 0) rfl) Tryz.underlying132 tf_sz9 (.inr ⟨_, _, _, rfl, rfl, rfl, rfl⟩) rfl rfl rfl rfl (by omega) ?_
                refine AtL.load (v := str (l4.getD 0 [])) tf_flat9 (.inr ⟨_, _, _, rfl, rfl, rfl, rfl⟩) rfl rfl (Rd.cell0 (o6.rd (i := 0) rfl) (getD_some [] (by omega)) rfl) ?_
                refine AtL.nes (a := (l4.getD k [])) (b := (l4.getD 0 [])) (.inr ⟨_, _, _, rfl, rfl, rfl, rfl⟩) rfl rfl rfl ?_
                refine AtL.pickF (.inl rfl) rfl rfl rfl ?_
                exact J _ (by exact ⟨(boolIs (by clear J; first | (simp [hs41]; done) | (simp_all; done) | grind)), rfl, rfl, rfl, rfl, trivial⟩)
            · skip
              refine AtL.done ?_
              refine At.cond rfl ?_ ?_
              · intro hc4
                have hc4 : ((((l4.getD k []) = []) ∨ (10 < ((l4.getD k []).length : Int))) ∨ (¬ (Lib.trimS (l4.getD k []) [48, 49, 50, 51, 52, 53, 54, 55, 56, 57] = []))) ∨ (¬ ((l4.getD k []) = (l4.getD 0 []))) := of_decide_eq_true hc4
                refine At.seq ?_
                refine At.region ?_
                refine AtL.assign (.inl rfl) rfl rfl ?_
                refine AtL.assign (.inl rfl) rfl rfl ?_
                refine AtL.done ?_
                refine At.pick (H' := H) [] 2 rfl rfl ?_
                exact At.ret Tryz.func50 rfl rfl (⟨by rw [len_bad hc1 hL (k := k) (by omega) (by rcases hc4 with h4 | h4; exact .inl (size_cond.2 h4); exact .inr h4)]; rfl, rfl⟩)
              · intro hc4
                have hc4 : ¬ (((((l4.getD k []) = []) ∨ (10 < ((l4.getD k []).length : Int))) ∨ (¬ (Lib.trimS (l4.getD k []) [48, 49, 50, 51, 52, 53, 54, 55, 56, 57] = []))) ∨ (¬ ((l4.getD k []) = (l4.getD 0 [])))) := of_decide_eq_false hc4
                refine At.skip ?_
                refine At.inBlock ?_
                refine At.region ?_
                refine AtL.add (z := (k : Int) + 1) (.inl rfl) rfl rfl rfl (w64 (by omega) (by omega)) ?_
                refine AtL.move (.inl rfl) rfl rfl ?_
                refine AtL.done ?_
                refine ihL1 (k + 1) (⟨by omega, fun j hj => (by rcases Nat.lt_or_ge j k with h1 | h1; exact hall j h1; obtain rfl : j = k := (by omega); simp only [not_or, Classical.not_not] at hc4; exact ⟨(by cases hq : (sizeF (l4.getD j [])).isSome with | true => rfl | false => exact absurd (size_cond.1 hq) (by simp only [not_or, Classical.not_not]; exact hc4.1)), hc4.2⟩)⟩) (by omega) _ ?_
                exact ⟨rfl, rfl, rfl, (by first | rfl | exact slLen (by simp []) | exact intEq (by omega) | exact intEq (by simp []) | exact slLen (by simp []; omega)), trivial⟩
      · intro hc3
        have hc3 : ¬ ((k : Int) < (l4.length : Int)) := of_decide_eq_false hc3
        refine At.exit rfl ?_
        refine At.seq ?_
        refine At.region ?_
        refine AtL.move (.inl rfl) rfl rfl ?_
        refine AtL.indexL 0 (o6.rd (i := 0) rfl) Tryz.underlying132 tf_sz9 (.inl rfl) rfl rfl rfl rfl (by omega) ?_
        refine AtL.load (v := str (l4.getD 0 [])) tf_flat9 (.inl rfl) rfl rfl (Rd.cell0 (o6.rd (i := 0) rfl) (getD_some [] (by omega)) rfl) ?_
        obtain ⟨n, hn⟩ : ∃ n, sizeF (l4.getD 0 []) = some n := Option.isSome_iff_exists.1 (hall 0 (by omega)).1
        have hlen0 := len_ok hc1 hL (by omega) (fun j hj => (hall j (by omega)).2) hn
        have hs10 : (l4.getD 0 []).length ≤ 10 := by have h1 := (hall 0 (by omega)).1; by_cases h2 : (l4.getD 0 []).length ≤ 10; exact h2; rw [sizeF, if_neg h2] at h1; cases h1
        have hn10 := size_lt hn
        refine AtL.call tf_body94 (.inl rfl) rfl rfl (atoi_ok (size_atoi hn) (by omega)) ?_
        rintro _ _ ⟨rfl, rfl⟩
        refine AtL.move (.inl rfl) rfl rfl ?_
        refine AtL.extract (.inl rfl) rfl rfl rfl ?_
        refine AtL.extract (.inl rfl) rfl rfl rfl ?_
        refine AtL.assign (.inl rfl) rfl rfl ?_
        refine AtL.assign (.inl rfl) rfl rfl ?_
        refine AtL.done ?_
        refine At.seq ?_
        refine At.seq ?_
        refine At.region ?_
        refine AtL.move (.inl rfl) rfl rfl ?_
        refine AtL.gtr (.inl rfl) rfl rfl rfl ?_
        refine AtL.done ?_
        refine At.cond rfl ?_ ?_
        · intro hc5
          have hc5 : 65535 < (n : Int) := of_decide_eq_true hc5
          refine At.seq ?_
          refine At.region ?_
          refine AtL.assign (.inl rfl) rfl rfl ?_
          refine AtL.assign (.inl rfl) rfl rfl ?_
          refine AtL.done ?_
          refine At.pick (H' := H) [] 2 rfl rfl ?_
          exact At.ret Tryz.func50 rfl rfl (⟨by rw [hlen0, if_pos (by omega)]; rfl, rfl⟩)
        · intro hc5
          have hc5 : ¬ (65535 < (n : Int)) := of_decide_eq_false hc5
          refine At.skip ?_
          refine At.seq ?_
          refine At.region ?_
          refine AtL.move (.inl rfl) rfl rfl ?_
          refine AtL.assign (.inl rfl) rfl rfl ?_
          refine AtL.assign (.inl rfl) rfl rfl ?_
          refine AtL.done ?_
          refine At.pick (H' := H) [] 2 rfl rfl ?_
          exact At.ret Tryz.func50 rfl rfl (⟨by rw [hlen0, if_neg (by omega)]; rfl, rfl⟩)

end Go.Proofs.YtlfkoimkojbghaaGreatDoor
