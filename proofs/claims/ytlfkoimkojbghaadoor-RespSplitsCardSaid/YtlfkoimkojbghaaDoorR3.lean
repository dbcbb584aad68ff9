/- The answer beside heads: lines, words. -/
import Derived.Test.YtlfkoimkojbghaaDoorR2
namespace Go.Proofs.YtlfkoimkojbghaaDoor
set_option linter.unusedVariables false
set_option linter.unusedSimpArgs false
set_option maxRecDepth 100000

theorem lnF_at {b line : List UInt8} {k : Nat} (h : k < b.length) : lnF line (b.drop k) = if ¬ ((b.getD k 0).toNat : Int) = 13 ∧ ¬ ((b.getD k 0).toNat : Int) = 10 then lnF (line ++ [b.getD k 0]) (b.drop (k + 1))
    else if ((b.getD k 0).toNat : Int) = 10 ∨ (b.length : Int) ≤ (k : Int) + 1 ∨ ¬ ((b.getD (k + 1) 0).toNat : Int) = 10 then none else (lnF [] (b.drop (k + 2))).map (line :: ·) := by
  rw [List.drop_eq_getElem_cons h]
  have e : b[k] = b.getD k 0 := by simp [List.getD, h]
  have h13 := u8_eq (c := b.getD k 0) (n := 13) (by omega)
  have h10 := u8_eq (c := b.getD k 0) (n := 10) (by omega)
  have g10 := u8_eq (c := b.getD (k + 1) 0) (n := 10) (by omega)
  rw [e, lnF]
  have a13 : (b.getD k 0 ≠ 13 ∧ b.getD k 0 ≠ 10) ↔ (¬ ((b.getD k 0).toNat : Int) = 13 ∧ ¬ ((b.getD k 0).toNat : Int) = 10) := and_congr (not_congr h13.symm) (not_congr h10.symm)
  have hh : (b.drop (k + 1)).head? = some 10 ↔ ¬ ((b.length : Int) ≤ (k : Int) + 1 ∨ ¬ ((b.getD (k + 1) 0).toNat : Int) = 10) := by
    rw [List.head?_drop]
    by_cases h2 : k + 1 < b.length
    · have e2 : b[k + 1]? = some (b.getD (k + 1) 0) := by simp [List.getD, h2]
      rw [e2]
      simp only [Option.some.injEq, not_or, Classical.not_not]
      exact ⟨fun h => ⟨by omega, g10.2 h⟩, fun h => g10.1 h.2⟩
    · rw [List.getElem?_eq_none (by omega)]
      simp only [reduceCtorEq, false_iff, Classical.not_not]
      exact .inl (by omega)
  have b10 : (b.getD k 0 = 10 ∨ (b.drop (k + 1)).head? ≠ some 10) ↔ (((b.getD k 0).toNat : Int) = 10 ∨ (b.length : Int) ≤ (k : Int) + 1 ∨ ¬ ((b.getD (k + 1) 0).toNat : Int) = 10) := or_congr h10.symm ((not_congr hh).trans Classical.not_not)
  simp only [a13, b10, List.tail_drop]
theorem sub_one {b : List UInt8} {k : Nat} (h : k < b.length) : subl b k (k + 1) = [b.getD k 0] := by
  unfold subl
  rw [List.drop_eq_getElem_cons h, show k + 1 - k = 1 by omega, List.take_succ_cons, List.take_zero]
  simp [List.getD, h]
theorem whole1 (a : List UInt8) : wholeL [a] = decide (a = []) := rfl
theorem whole2 (a c : List UInt8) (r : List (List UInt8)) : wholeL (a :: c :: r) = (decide (a ≠ []) && wholeL (c :: r)) := rfl
theorem lines_none {b : List UInt8} (h : lnF [] b = none ∨ ∃ ls, lnF [] b = some ls ∧ wholeL ls = false) : linesF b = none := by
  have hlf := lnF_lines b
  cases hq : linesF b with
  | none => rfl
  | some q =>
    rw [hq] at hlf
    rcases h with h | ⟨ls, h, hw⟩
    · rw [h] at hlf; simp at hlf
    · rw [h] at hlf; simp [hw] at hlf
theorem lines_some {b : List UInt8} {ls : List (List UInt8)} (h : lnF [] b = some ls) (hw : wholeL ls = true) : ∃ q, linesF b = some q ∧ ls = q ++ [[]] := by
  have hlf := lnF_lines b
  rw [h] at hlf
  cases hq : linesF b with
  | none => rw [hq] at hlf; simp [hw] at hlf
  | some q => rw [hq] at hlf; simp [hw] at hlf; exact ⟨q, rfl, hlf⟩
theorem whole_step {l : List (List UInt8)} {k : Nat} (h : k < l.length) : wholeL (l.drop k) = if decide (l.getD k [] = []) = decide ((k : Int) = (l.length : Int) - 1) then (if k + 1 = l.length then true else wholeL (l.drop (k + 1))) else false := by
  rw [List.drop_eq_getElem_cons h]
  have e : l[k] = l.getD k [] := by simp [List.getD, h]
  rw [e]
  by_cases h2 : k + 1 = l.length
  · rw [List.drop_eq_nil_of_le (by omega), whole1, if_pos h2, decide_eq_true (show (k : Int) = (l.length : Int) - 1 by omega)]
    by_cases h3 : l.getD k [] = [] <;> simp [h3]
  · rw [List.drop_eq_getElem_cons (show k + 1 < l.length by omega), whole2, if_neg h2, decide_eq_false (show ¬ (k : Int) = (l.length : Int) - 1 by omega)]
    by_cases h3 : l.getD k [] = [] <;> simp [h3]

set_option maxHeartbeats 400000 in
theorem rlines_ok {w0 : World} {base : Nat} {H : List Seg} {A : Option Addr} {C : Nat} {b : List UInt8} (h : Rd tyB w0 base H A C b) (hl : b.length ≤ 4294967280) :
    SCalls Tryd.prog 81 [.slice A b.length C] w0 base (H) (fun v H' => ∃ x : Sl tyS 9, v = .tuple #[.slice x.A x.l.length x.C, .bool (linesF b).isSome] ∧ (∀ ls, linesF b = some ls → x.l = ls ++ [[]]) ∧ H' = x.s :: H) := by
  have hcap := h.cap
  have hle := h.le
  refine SCalls.of_walk (n := 85) Tryd.func81 rfl rfl rfl fun cs => ?_
  refine At.seq ?_
  refine At.region ?_
  refine AtL.assign (.inl rfl) rfl rfl ?_
  refine AtL.assign (.inl rfl) rfl rfl ?_
  refine AtL.done ?_
  refine At.seq ?_
  refine At.region ?_
  refine AtL.assign (.inl rfl) rfl rfl ?_
  refine AtL.done ?_
  refine At.seq ?_
  refine At.region ?_
  refine AtL.assign (.inl rfl) rfl rfl ?_
  refine AtL.done ?_
  refine At.seq ?_
  refine At.seq ?_
  refine At.region ?_
  refine AtL.assign (.inl rfl) rfl rfl ?_
  refine AtL.done ?_
  refine At.block ?_
  refine At.nil ?_
  refine At.loop3 (fun (k : Nat) (line : List UInt8) (x : Sl tyS 9) => [(0, .slice A b.length C), (4, .slice x.A x.l.length x.C), (5, str line), (6, .int .i64 (k : Int))]) (fun (k : Nat) (line : List UInt8) (x : Sl tyS 9) => x.s :: H) (fun (k : Nat) (line : List UInt8) (x : Sl tyS 9) => k ≤ b.length ∧ lnF [] b = (lnF line (b.drop k)).map (x.l ++ ·) ∧ x.l.length ≤ k ∧ line.length ≤ k) (fun (k : Nat) (line : List UInt8) (x : Sl tyS 9) => b.length - k) 0 [] Sl.nil (⟨Nat.zero_le _, by simp [Sl.nil], by simp [Sl.nil], by simp⟩) ⟨rfl, rfl, rfl, rfl, trivial⟩ rfl ?_
  rintro k line x ⟨hk, hln, hxk, hlk⟩ ihL1
  have hcapx := Own.cap_le x.own
  refine At.seq ?_
  refine At.seq ?_
  refine At.region ?_
  refine AtL.move (.inl rfl) rfl rfl ?_
  refine AtL.move (.inl rfl) rfl rfl ?_
  refine AtL.lenL Tryd.underlying25 (.inl rfl) rfl rfl ?_
  refine AtL.lss (.inl rfl) rfl rfl rfl ?_
  refine AtL.done ?_
  refine At.cond rfl ?_ ?_
  · intro hc1
    have hc1 : (k : Int) < (b.length : Int) := of_decide_eq_true hc1
    have hat := lnF_at (b := b) (line := line) (k := k) (by omega)
    refine At.skip ?_
    refine At.seq ?_
    refine At.block ?_
    refine At.seq ?_
    refine At.seq ?_
    refine At.region ?_
    refine AtL.move (.inl rfl) rfl rfl ?_
    refine AtL.move (.inl rfl) rfl rfl ?_
    refine AtL.indexL k (Rd.skip 1 h) Tryd.underlying25 tf_sz5 (.inl rfl) rfl rfl rfl rfl (by omega) ?_
    refine AtL.load (v := .int .u8 ((b.getD k 0).toNat : Int)) tf_flat5 (.inl rfl) rfl rfl (Rd.cell0 (Rd.skip 1 h) (getD_some 0 (by omega)) rfl) ?_
    refine AtL.nei (.inl rfl) rfl rfl rfl ?_
    refine AtL.move (.inl rfl) rfl rfl ?_
    refine AtL.join 6 (E' := [(25, .bool (decide ((¬ (((b.getD k 0).toNat : Int) = 13)) ∧ (¬ (((b.getD k 0).toNat : Int) = 10))))), (0, .slice A b.length C), (4, .slice x.A x.l.length x.C), (5, str line), (6, .int .i64 (k : Int))]) (H' := x.s :: H) (fun J => ?_) ?_
    · refine AtL.split (t := 19) rfl ?_ ?_
      · intro hs19
        have hs19 : ¬ (((b.getD k 0).toNat : Int) = 13) := of_decide_eq_false (bnot_true hs19)
        refine AtL.move (.inr ⟨_, _, _, rfl, rfl, rfl, rfl⟩) rfl rfl ?_
        refine AtL.move (.inr ⟨_, _, _, rfl, rfl, rfl, rfl⟩) rfl rfl ?_
        refine AtL.indexL k (Rd.skip 1 h) Tryd.underlying25 tf_sz5 (.inr ⟨_, _, _, rfl, rfl, rfl, rfl⟩) rfl rfl rfl rfl (by omega) ?_
        refine AtL.load (v := .int .u8 ((b.getD k 0).toNat : Int)) tf_flat5 (.inr ⟨_, _, _, rfl, rfl, rfl, rfl⟩) rfl rfl (Rd.cell0 (Rd.skip 1 h) (getD_some 0 (by omega)) rfl) ?_
        refine AtL.nei (.inr ⟨_, _, _, rfl, rfl, rfl, rfl⟩) rfl rfl rfl ?_
        refine AtL.pickT (.inl rfl) rfl rfl rfl ?_
        exact J _ (by exact ⟨(boolIs (by clear J; first | (simp [hs19]; done) | (simp_all; done) | grind)), rfl, rfl, rfl, rfl, trivial⟩)
      · intro hs19
        have hs19 : ((b.getD k 0).toNat : Int) = 13 := of_decide_eq_true (bnot_false hs19)
        refine AtL.skipped rfl rfl rfl rfl rfl rfl ?_
        refine AtL.skipped rfl rfl rfl rfl rfl rfl ?_
        refine AtL.skipped rfl rfl rfl rfl rfl rfl ?_
        refine AtL.skipped rfl rfl rfl rfl rfl rfl ?_
        refine AtL.skipped rfl rfl rfl rfl rfl rfl ?_
        refine AtL.pickF (.inl rfl) rfl rfl rfl ?_
        exact J _ (by exact ⟨(boolIs (by clear J; first | (simp [hs19]; done) | (simp_all; done) | grind)), rfl, rfl, rfl, rfl, trivial⟩)
    · skip
      refine AtL.done ?_
      refine At.cond rfl ?_ ?_
      · intro hc2
        have hc2 : (¬ (((b.getD k 0).toNat : Int) = 13)) ∧ (¬ (((b.getD k 0).toNat : Int) = 10)) := of_decide_eq_true hc2
        refine At.seq ?_
        refine At.region ?_
        refine AtL.move (.inl rfl) rfl rfl ?_
        refine AtL.move (.inl rfl) rfl rfl ?_
        refine AtL.move (.inl rfl) rfl rfl ?_
        refine AtL.move (.inl rfl) rfl rfl ?_
        refine AtL.add (z := (k : Int) + 1) (.inl rfl) rfl rfl rfl (w64 (by omega) (by omega)) ?_
        have hleo3 := Rd.le h
        refine AtL.sliceR 1 k (k + 1) C h (evBound_some rfl rfl) (evBound_some rfl rfl) rfl (by intro h; cases h) (by omega) (by omega) (by omega) (by omega) Tryd.underlying25 tf_sz5 (.inl rfl) rfl rfl ?_
        clear hleo3
        intro A1 C2 (o3 : Rd tyB w0 base H A1 C2 (subl b k (k + 1)))
        have hlo3 : (subl b k (k + 1)).length = (k + 1) - k := subl_len (by omega)
        refine AtL.strOf (Rd.skip 1 o3) Tryd.underlying25 Tryd.underlying5 Tryd.underlying9 (.inl rfl) rfl rfl ?_
        refine AtL.cat (.inl rfl) rfl rfl rfl (by first | omega | (simp only [List.length_append, List.length_cons, List.length_nil]; omega) | (simp; omega)) ?_
        refine AtL.assign (.inl rfl) rfl rfl ?_
        refine AtL.done ?_
        refine At.exit rfl ?_
        refine At.region ?_
        refine AtL.move (.inl rfl) rfl rfl ?_
        refine AtL.add (z := (k : Int) + 1) (.inl rfl) rfl rfl rfl (w64 (by omega) (by omega)) ?_
        refine AtL.assign (.inl rfl) rfl rfl ?_
        refine AtL.done ?_
        refine ihL1 (k + 1) (line ++ (subl b k (k + 1))) x (⟨by omega, by rw [hln, hat, if_pos hc2, sub_one (by omega)], by omega, by simp [subl_len (show k + 1 ≤ b.length by omega)]; omega⟩) (by omega) _ ?_
        exact ⟨rfl, (by first | rfl | exact slLen (by simp []) | exact intEq (by omega) | exact intEq (by simp []) | exact slLen (by simp []; omega)), (by first | rfl | exact slLen (by simp []) | exact intEq (by omega) | exact intEq (by simp []) | exact slLen (by simp []; omega)), (by first | rfl | exact slLen (by simp []) | exact intEq (by omega) | exact intEq (by simp []) | exact slLen (by simp []; omega)), trivial⟩
      · intro hc2
        have hc2 : ¬ ((¬ (((b.getD k 0).toNat : Int) = 13)) ∧ (¬ (((b.getD k 0).toNat : Int) = 10))) := of_decide_eq_false hc2
        refine At.skip ?_
        refine At.seq ?_
        refine At.seq ?_
        refine At.region ?_
        refine AtL.move (.inl rfl) rfl rfl ?_
        refine AtL.move (.inl rfl) rfl rfl ?_
        refine AtL.indexL k (Rd.skip 1 h) Tryd.underlying25 tf_sz5 (.inl rfl) rfl rfl rfl rfl (by omega) ?_
        refine AtL.load (v := .int .u8 ((b.getD k 0).toNat : Int)) tf_flat5 (.inl rfl) rfl rfl (Rd.cell0 (Rd.skip 1 h) (getD_some 0 (by omega)) rfl) ?_
        refine AtL.eqi (.inl rfl) rfl rfl rfl ?_
        refine AtL.move (.inl rfl) rfl rfl ?_
        refine AtL.join 6 (E' := [(45, .bool (decide ((((b.getD k 0).toNat : Int) = 10) ∨ ((b.length : Int) ≤ ((k : Int) + 1))))), (0, .slice A b.length C), (4, .slice x.A x.l.length x.C), (5, str line), (6, .int .i64 (k : Int))]) (H' := x.s :: H) (fun J => ?_) ?_
        · refine AtL.split (t := 39) rfl ?_ ?_
          · intro hs39
            have hs39 : ((b.getD k 0).toNat : Int) = 10 := of_decide_eq_true hs39
            refine AtL.skipped rfl rfl rfl rfl rfl rfl ?_
            refine AtL.skipped rfl rfl rfl rfl rfl rfl ?_
            refine AtL.skipped rfl rfl rfl rfl rfl rfl ?_
            refine AtL.skipped rfl rfl rfl rfl rfl rfl ?_
            refine AtL.skipped rfl rfl rfl rfl rfl rfl ?_
            refine AtL.pickT (.inl rfl) rfl rfl rfl ?_
            exact J _ (by exact ⟨(boolIs (by clear J; first | (simp [hs39]; done) | (simp_all; done) | grind)), rfl, rfl, rfl, rfl, trivial⟩)
          · intro hs39
            have hs39 : ¬ (((b.getD k 0).toNat : Int) = 10) := of_decide_eq_false hs39
            refine AtL.move (.inr ⟨_, _, _, rfl, rfl, rfl, rfl⟩) rfl rfl ?_
            refine AtL.add (z := (k : Int) + 1) (.inr ⟨_, _, _, rfl, rfl, rfl, rfl⟩) rfl rfl rfl (w64 (by omega) (by omega)) ?_
            refine AtL.move (.inr ⟨_, _, _, rfl, rfl, rfl, rfl⟩) rfl rfl ?_
            refine AtL.lenL Tryd.underlying25 (.inr ⟨_, _, _, rfl, rfl, rfl, rfl⟩) rfl rfl ?_
            refine AtL.geq (.inr ⟨_, _, _, rfl, rfl, rfl, rfl⟩) rfl rfl rfl ?_
            refine AtL.pickF (.inl rfl) rfl rfl rfl ?_
            exact J _ (by exact ⟨(boolIs (by clear J; first | (simp [hs39]; done) | (simp_all; done) | grind)), rfl, rfl, rfl, rfl, trivial⟩)
        · skip
          refine AtL.move (.inl rfl) rfl rfl ?_
          refine AtL.join 7 (E' := [(53, .bool (decide (((((b.getD k 0).toNat : Int) = 10) ∨ ((b.length : Int) ≤ ((k : Int) + 1))) ∨ (¬ (((b.getD (k + 1) 0).toNat : Int) = 10))))), (0, .slice A b.length C), (4, .slice x.A x.l.length x.C), (5, str line), (6, .int .i64 (k : Int))]) (H' := x.s :: H) (fun J => ?_) ?_
          · refine AtL.split (t := 46) rfl ?_ ?_
            · intro hs46
              have hs46 : (((b.getD k 0).toNat : Int) = 10) ∨ ((b.length : Int) ≤ ((k : Int) + 1)) := of_decide_eq_true hs46
              refine AtL.skipped rfl rfl rfl rfl rfl rfl ?_
              refine AtL.skipped rfl rfl rfl rfl rfl rfl ?_
              refine AtL.skipped rfl rfl rfl rfl rfl rfl ?_
              refine AtL.skipped rfl rfl rfl rfl rfl rfl ?_
              refine AtL.skipped rfl rfl rfl rfl rfl rfl ?_
              refine AtL.skipped rfl rfl rfl rfl rfl rfl ?_
              refine AtL.pickT (.inl rfl) rfl rfl rfl ?_
              exact J _ (by exact ⟨(boolIs (by clear J; first | (simp [hs46]; done) | (simp_all; done) | grind)), rfl, rfl, rfl, rfl, trivial⟩)
            · intro hs46
              have hs46 : ¬ ((((b.getD k 0).toNat : Int) = 10) ∨ ((b.length : Int) ≤ ((k : Int) + 1))) := of_decide_eq_false hs46
              refine AtL.move (.inr ⟨_, _, _, rfl, rfl, rfl, rfl⟩) rfl rfl ?_
              refine AtL.move (.inr ⟨_, _, _, rfl, rfl, rfl, rfl⟩) rfl rfl ?_
              refine AtL.add (z := (k : Int) + 1) (.inr ⟨_, _, _, rfl, rfl, rfl, rfl⟩) rfl rfl rfl (w64 (by omega) (by omega)) ?_
              refine AtL.indexL (k + 1) (Rd.skip 1 h) Tryd.underlying25 tf_sz5 (.inr ⟨_, _, _, rfl, rfl, rfl, rfl⟩) rfl rfl rfl rfl (by omega) ?_
              refine AtL.load (v := .int .u8 ((b.getD (k + 1) 0).toNat : Int)) tf_flat5 (.inr ⟨_, _, _, rfl, rfl, rfl, rfl⟩) rfl rfl (Rd.cell0 (Rd.skip 1 h) (getD_some 0 (by omega)) rfl) ?_
              refine AtL.nei (.inr ⟨_, _, _, rfl, rfl, rfl, rfl⟩) rfl rfl rfl ?_
              refine AtL.pickF (.inl rfl) rfl rfl rfl ?_
              exact J _ (by exact ⟨(boolIs (by clear J; first | (simp [hs46]; done) | (simp_all; done) | grind)), rfl, rfl, rfl, rfl, trivial⟩)
          · skip
            refine AtL.done ?_
            refine At.cond rfl ?_ ?_
            · intro hc3
              have hc3 : ((((b.getD k 0).toNat : Int) = 10) ∨ ((b.length : Int) ≤ ((k : Int) + 1))) ∨ (¬ (((b.getD (k + 1) 0).toNat : Int) = 10)) := of_decide_eq_true hc3
              have hy3 : ((b.getD k 0).toNat : Int) = 10 ∨ (b.length : Int) ≤ (k : Int) + 1 ∨ ¬ ((b.getD (k + 1) 0).toNat : Int) = 10 := or_assoc.1 hc3
              refine At.seq ?_
              refine At.region ?_
              refine AtL.assign (.inl rfl) rfl rfl ?_
              refine AtL.assign (.inl rfl) rfl rfl ?_
              refine AtL.done ?_
              refine At.nil ?_
              refine At.pick (H' := [] :: H) [0] 2 rfl rfl ?_
              have hn := lines_none (b := b) (.inl (by rw [hln, hat, if_neg hc2, if_pos hy3]; rfl))
              exact At.ret Tryd.func81 rfl rfl (⟨Sl.nil, by rw [hn]; rfl, fun ls h => (by rw [hn] at h; cases h), rfl⟩)
            · intro hc3
              have hc3 : ¬ (((((b.getD k 0).toNat : Int) = 10) ∨ ((b.length : Int) ≤ ((k : Int) + 1))) ∨ (¬ (((b.getD (k + 1) 0).toNat : Int) = 10))) := of_decide_eq_false hc3
              have hn3 : ¬ (((b.getD k 0).toNat : Int) = 10 ∨ (b.length : Int) ≤ (k : Int) + 1 ∨ ¬ ((b.getD (k + 1) 0).toNat : Int) = 10) := fun h => hc3 (or_assoc.2 h)
              refine At.skip ?_
              refine At.seq ?_
              refine At.region ?_
              refine AtL.move (.inl rfl) rfl rfl ?_
              refine AtL.move (.inl rfl) rfl rfl ?_
              refine AtL.buildSlice (cs := [str line]) Tryd.underlying38 tf_zero9 tf_sz9 rfl rfl (.inl rfl) rfl rfl rfl ?_
              intro b4
              refine AtL.own1 tyS (l := ([line] : List (List UInt8))) rfl rfl (by first | decide | simp) ?_
              intro s5 o6
              refine AtL.append (l := x.l) (news := [line]) 1 tf_el38 rfl x.own (o6.rd (i := 0) rfl) (by simp; omega) (.inl rfl) rfl rfl rfl ?_
              intro A7 C8 s9 o10
              refine AtL.assign (.inl rfl) rfl rfl ?_
              refine AtL.done ?_
              refine At.seq ?_
              refine At.region ?_
              refine AtL.assign (.inl rfl) rfl rfl ?_
              refine AtL.done ?_
              refine At.region ?_
              refine AtL.move (.inl rfl) rfl rfl ?_
              refine AtL.add (z := (k : Int) + 1) (.inl rfl) rfl rfl rfl (w64 (by omega) (by omega)) ?_
              refine AtL.assign (.inl rfl) rfl rfl ?_
              refine AtL.done ?_
              refine At.inBlock ?_
              refine At.region ?_
              refine AtL.move (.inl rfl) rfl rfl ?_
              refine AtL.add (z := ((k : Int) + 1) + 1) (.inl rfl) rfl rfl rfl (w64 (by omega) (by omega)) ?_
              refine AtL.assign (.inl rfl) rfl rfl ?_
              refine AtL.done ?_
              refine At.pick (H' := s9 :: H) [1] 2 rfl rfl ?_
              refine ihL1 (k + 2) [] (⟨A7, C8, x.l ++ [line], s9, o10⟩) (⟨by omega, by rw [hln, hat, if_neg hc2, if_neg hn3, Option.map_map]; congr 1; funext q; simp, by simp; omega, by simp⟩) (by omega) _ ?_
              exact ⟨rfl, (by first | rfl | exact slLen (by simp []) | exact intEq (by omega) | exact intEq (by simp []) | exact slLen (by simp []; omega)), (by first | rfl | exact slLen (by simp []) | exact intEq (by omega) | exact intEq (by simp []) | exact slLen (by simp []; omega)), (by first | rfl | exact slLen (by simp []) | exact intEq (by omega) | exact intEq (by simp []) | exact slLen (by simp []; omega)), trivial⟩
  · intro hc1
    have hc1 : ¬ ((k : Int) < (b.length : Int)) := of_decide_eq_false hc1
    refine At.exit rfl ?_
    refine At.seq ?_
    refine At.seq ?_
    refine At.region ?_
    refine AtL.move (.inl rfl) rfl rfl ?_
    refine AtL.nes (a := line) (b := []) (.inl rfl) rfl rfl rfl ?_
    refine AtL.move (.inl rfl) rfl rfl ?_
    refine AtL.join 4 (E' := [(66, .bool (decide ((¬ (line = [])) ∨ ((x.l.length : Int) = 0)))), (4, .slice x.A x.l.length x.C)]) (H' := x.s :: H) (fun J => ?_) ?_
    · refine AtL.split (t := 62) rfl ?_ ?_
      · intro hs62
        have hs62 : ¬ (line = []) := of_decide_eq_false (bnot_true hs62)
        refine AtL.skipped rfl rfl rfl rfl rfl rfl ?_
        refine AtL.skipped rfl rfl rfl rfl rfl rfl ?_
        refine AtL.skipped rfl rfl rfl rfl rfl rfl ?_
        refine AtL.pickT (.inl rfl) rfl rfl rfl ?_
        exact J _ (by exact ⟨(boolIs (by clear J; first | (simp [hs62]; done) | (simp_all; done) | grind)), rfl, trivial⟩)
      · intro hs62
        have hs62 : line = [] := of_decide_eq_true (bnot_false hs62)
        refine AtL.move (.inr ⟨_, _, _, rfl, rfl, rfl, rfl⟩) rfl rfl ?_
        refine AtL.lenL Tryd.underlying38 (.inr ⟨_, _, _, rfl, rfl, rfl, rfl⟩) rfl rfl ?_
        refine AtL.eqi (.inr ⟨_, _, _, rfl, rfl, rfl, rfl⟩) rfl rfl rfl ?_
        refine AtL.pickF (.inl rfl) rfl rfl rfl ?_
        exact J _ (by exact ⟨(boolIs (by clear J; first | (simp [hs62]; done) | (simp_all; done) | grind)), rfl, trivial⟩)
    · skip
      refine AtL.done ?_
      refine At.cond rfl ?_ ?_
      · intro hc4
        have hc4 : (¬ (line = [])) ∨ ((x.l.length : Int) = 0) := of_decide_eq_true hc4
        refine At.seq ?_
        refine At.region ?_
        refine AtL.assign (.inl rfl) rfl rfl ?_
        refine AtL.assign (.inl rfl) rfl rfl ?_
        refine AtL.done ?_
        refine At.nil ?_
        refine At.pick (H' := [] :: H) [0] 2 rfl rfl ?_
        have hl0 : lnF [] b = if line = [] then some x.l else none := by rw [hln, List.drop_eq_nil_of_le (by omega), lnF]; split <;> simp
        have hx0 : line = [] → x.l = [] := fun h => (by rcases hc4 with h4 | h4; exact absurd h h4; exact List.eq_nil_of_length_eq_zero (by omega))
        have hn := lines_none (b := b) (by by_cases h : line = []; exact .inr ⟨[], by rw [hl0, if_pos h, hx0 h], rfl⟩; exact .inl (by rw [hl0, if_neg h]))
        exact At.ret Tryd.func81 rfl rfl (⟨Sl.nil, by rw [hn]; rfl, fun ls h => (by rw [hn] at h; cases h), rfl⟩)
      · intro hc4
        have hc4 : ¬ ((¬ (line = [])) ∨ ((x.l.length : Int) = 0)) := of_decide_eq_false hc4
        refine At.skip ?_
        refine At.seq ?_
        refine At.seq ?_
        refine At.region ?_
        refine AtL.assign (.inl rfl) rfl rfl ?_
        refine AtL.done ?_
        refine At.block ?_
        have hs1 : lnF [] b = some x.l := by rw [hln, List.drop_eq_nil_of_le (by omega), lnF]; simp only [not_or, Classical.not_not] at hc4; rw [if_pos hc4.1]; simp
        have hx0 : x.l.length ≠ 0 := by simp only [not_or] at hc4; omega
        refine At.loop (fun (j : Nat) => [(4, .slice x.A x.l.length x.C), (7, .int .i64 (j : Int))]) (fun (j : Nat) => x.s :: H) (fun (j : Nat) => j ≤ x.l.length ∧ wholeL x.l = (if j = x.l.length then true else wholeL (x.l.drop j))) (fun (j : Nat) => x.l.length - j) 0 (⟨Nat.zero_le _, by rw [if_neg (by omega)]; rfl⟩) ⟨rfl, rfl, trivial⟩ rfl ?_
        rintro j ⟨hj, hwl⟩ ihL2
        refine At.seq ?_
        refine At.seq ?_
        refine At.region ?_
        refine AtL.move (.inl rfl) rfl rfl ?_
        refine AtL.move (.inl rfl) rfl rfl ?_
        refine AtL.lenL Tryd.underlying38 (.inl rfl) rfl rfl ?_
        refine AtL.lss (.inl rfl) rfl rfl rfl ?_
        refine AtL.done ?_
        refine At.cond rfl ?_ ?_
        · intro hc5
          have hc5 : (j : Int) < (x.l.length : Int) := of_decide_eq_true hc5
          refine At.skip ?_
          refine At.seq ?_
          refine At.block ?_
          refine At.seq ?_
          refine At.region ?_
          refine AtL.move (.inl rfl) rfl rfl ?_
          refine AtL.move (.inl rfl) rfl rfl ?_
          refine AtL.indexL j (x.own.rd (i := 0) rfl) Tryd.underlying38 tf_sz9 (.inl rfl) rfl rfl rfl rfl (by omega) ?_
          refine AtL.load (v := str (x.l.getD j [])) tf_flat9 (.inl rfl) rfl rfl (Rd.cell0 (x.own.rd (i := 0) rfl) (getD_some [] (by omega)) rfl) ?_
          refine AtL.eqs (a := (x.l.getD j [])) (b := []) (.inl rfl) rfl rfl rfl ?_
          refine AtL.move (.inl rfl) rfl rfl ?_
          refine AtL.move (.inl rfl) rfl rfl ?_
          refine AtL.lenL Tryd.underlying38 (.inl rfl) rfl rfl ?_
          refine AtL.sub (z := (x.l.length : Int) - 1) (.inl rfl) rfl rfl rfl (w64 (by omega) (by omega)) ?_
          refine AtL.eqi (.inl rfl) rfl rfl rfl ?_
          refine AtL.neb Tryd.underlying4 (.inl rfl) rfl rfl rfl ?_
          refine AtL.done ?_
          refine At.cond rfl ?_ ?_
          · intro hc6
            have hc6 : ((decide ((x.l.getD j []) = [])) == (decide ((j : Int) = ((x.l.length : Int) - 1)))) = false := bnot_true hc6
            have hc6 : ¬ decide (x.l.getD j [] = []) = decide ((j : Int) = (x.l.length : Int) - 1) := by simpa using hc6
            refine At.seq ?_
            refine At.region ?_
            refine AtL.assign (.inl rfl) rfl rfl ?_
            refine AtL.assign (.inl rfl) rfl rfl ?_
            refine AtL.done ?_
            refine At.nil ?_
            refine At.pick (H' := [] :: H) [0] 2 rfl rfl ?_
            have hn := lines_none (b := b) (.inr ⟨x.l, hs1, by rw [hwl, if_neg (by omega), whole_step (by omega), if_neg hc6]⟩)
            exact At.ret Tryd.func81 rfl rfl (⟨Sl.nil, by rw [hn]; rfl, fun ls h => (by rw [hn] at h; cases h), rfl⟩)
          · intro hc6
            have hc6 : ((decide ((x.l.getD j []) = [])) == (decide ((j : Int) = ((x.l.length : Int) - 1)))) = true := bnot_false hc6
            have hc6 : decide (x.l.getD j [] = []) = decide ((j : Int) = (x.l.length : Int) - 1) := by simpa using hc6
            refine At.skip ?_
            refine At.inBlock ?_
            refine At.region ?_
            refine AtL.move (.inl rfl) rfl rfl ?_
            refine AtL.add (z := (j : Int) + 1) (.inl rfl) rfl rfl rfl (w64 (by omega) (by omega)) ?_
            refine AtL.assign (.inl rfl) rfl rfl ?_
            refine AtL.done ?_
            refine ihL2 (j + 1) (⟨by omega, by rw [hwl, if_neg (by omega), whole_step (by omega), if_pos hc6]⟩) (by omega) _ ?_
            exact ⟨rfl, (by first | rfl | exact slLen (by simp []) | exact intEq (by omega) | exact intEq (by simp []) | exact slLen (by simp []; omega)), trivial⟩
        · intro hc5
          have hc5 : ¬ ((j : Int) < (x.l.length : Int)) := of_decide_eq_false hc5
          refine At.exit rfl ?_
          refine At.seq ?_
          refine At.region ?_
          refine AtL.move (.inl rfl) rfl rfl ?_
          refine AtL.assign (.inl rfl) rfl rfl ?_
          refine AtL.assign (.inl rfl) rfl rfl ?_
          refine AtL.done ?_
          obtain ⟨q, hq, hq2⟩ := lines_some hs1 (by rw [hwl, if_pos (by omega)])
          exact At.ret Tryd.func81 rfl rfl (⟨x, by rw [hq]; rfl, fun ls h => (by rw [hq] at h; cases h; exact hq2), rfl⟩)

theorem pre1_at {c : UInt8} {s w : List UInt8} {k : Nat} (h : k < s.length) : pre1 w (spF c (s.drop k)) = if ((s.getD k 0).toNat : Int) = (c.toNat : Int) then w :: pre1 [] (spF c (s.drop (k + 1))) else pre1 (w ++ [s.getD k 0]) (spF c (s.drop (k + 1))) := by
  rw [List.drop_eq_getElem_cons h]
  have e : s[k] = s.getD k 0 := by simp [List.getD, h]
  rw [e, pre1_sp]
  by_cases h2 : s.getD k 0 = c
  · rw [if_pos h2, if_pos (by rw [h2])]
  · rw [if_neg h2, if_neg (fun h3 => h2 (u8_ofInt h3))]

set_option maxHeartbeats 400000 in
theorem rsplit_ok {w0 : World} {base : Nat} {H : List Seg} {s : List UInt8} (c : UInt8) (hl : s.length ≤ 4294967280) :
    SCalls Tryd.prog 82 [str s, .int .u8 (c.toNat : Int)] w0 base (H) (fun v H' => ∃ y : Sl tyS 9, y.l = spF c s ∧ v = .slice y.A y.l.length y.C ∧ H' = y.s :: H) := by
  refine SCalls.of_walk (n := 34) Tryd.func82 rfl rfl rfl fun cs => ?_
  refine At.seq ?_
  refine At.region ?_
  refine AtL.assign (.inl rfl) rfl rfl ?_
  refine AtL.done ?_
  refine At.seq ?_
  refine At.region ?_
  refine AtL.assign (.inl rfl) rfl rfl ?_
  refine AtL.done ?_
  refine At.seq ?_
  refine At.region ?_
  refine AtL.assign (.inl rfl) rfl rfl ?_
  refine AtL.done ?_
  refine At.seq ?_
  refine At.seq ?_
  refine At.region ?_
  refine AtL.assign (.inl rfl) rfl rfl ?_
  refine AtL.done ?_
  refine At.block ?_
  refine At.nil ?_
  refine At.loop3 (fun (k : Nat) (wd : List UInt8) (x : Sl tyS 9) => [(0, str s), (1, .int .u8 (c.toNat : Int)), (5, .slice x.A x.l.length x.C), (6, str wd), (7, .int .i64 (k : Int))]) (fun (k : Nat) (wd : List UInt8) (x : Sl tyS 9) => x.s :: H) (fun (k : Nat) (wd : List UInt8) (x : Sl tyS 9) => k ≤ s.length ∧ x.l ++ pre1 wd (spF c (s.drop k)) = spF c s ∧ x.l.length ≤ k ∧ wd.length ≤ k) (fun (k : Nat) (wd : List UInt8) (x : Sl tyS 9) => s.length - k) 0 [] Sl.nil (⟨Nat.zero_le _, by simp [Sl.nil]; exact pre1_nil _ (spF_ne c s), by simp [Sl.nil], by simp⟩) ⟨rfl, rfl, rfl, rfl, rfl, trivial⟩ rfl ?_
  rintro k wd x ⟨hk, hsp, hxk, hwk⟩ ihL1
  have hcapx := Own.cap_le x.own
  refine At.seq ?_
  refine At.seq ?_
  refine At.region ?_
  refine AtL.move (.inl rfl) rfl rfl ?_
  refine AtL.move (.inl rfl) rfl rfl ?_
  refine AtL.lenS (l := s) Tryd.underlying9 (.inl rfl) rfl rfl ?_
  refine AtL.lss (.inl rfl) rfl rfl rfl ?_
  refine AtL.done ?_
  refine At.cond rfl ?_ ?_
  · intro hc1
    have hc1 : (k : Int) < (s.length : Int) := of_decide_eq_true hc1
    have hs1 : (subl s k (k + 1)).length = 1 := by rw [sub_one (by omega)]; rfl
    refine At.skip ?_
    refine At.seq ?_
    refine At.block ?_
    refine At.seq ?_
    refine At.region ?_
    refine AtL.move (.inl rfl) rfl rfl ?_
    refine AtL.move (.inl rfl) rfl rfl ?_
    refine AtL.indexS (l := s) k rfl (by omega) Tryd.underlying9 (.inl rfl) rfl rfl rfl ?_
    refine AtL.move (.inl rfl) rfl rfl ?_
    refine AtL.eqi (.inl rfl) rfl rfl rfl ?_
    refine AtL.done ?_
    refine At.cond rfl ?_ ?_
    · intro hc2
      have hc2 : ((s.getD k 0).toNat : Int) = (c.toNat : Int) := of_decide_eq_true hc2
      refine At.seq ?_
      refine At.region ?_
      refine AtL.move (.inl rfl) rfl rfl ?_
      refine AtL.move (.inl rfl) rfl rfl ?_
      refine AtL.buildSlice (cs := [str wd]) Tryd.underlying38 tf_zero9 tf_sz9 rfl rfl (.inl rfl) rfl rfl rfl ?_
      intro b1
      refine AtL.own1 tyS (l := ([wd] : List (List UInt8))) rfl rfl (by first | decide | simp) ?_
      intro s2 o3
      refine AtL.append (l := x.l) (news := [wd]) 1 tf_el38 rfl x.own (o3.rd (i := 0) rfl) (by simp; omega) (.inl rfl) rfl rfl rfl ?_
      intro A4 C5 s6 o7
      refine AtL.assign (.inl rfl) rfl rfl ?_
      refine AtL.done ?_
      refine At.region ?_
      refine AtL.assign (.inl rfl) rfl rfl ?_
      refine AtL.done ?_
      refine At.inBlock ?_
      refine At.region ?_
      refine AtL.move (.inl rfl) rfl rfl ?_
      refine AtL.add (z := (k : Int) + 1) (.inl rfl) rfl rfl rfl (w64 (by omega) (by omega)) ?_
      refine AtL.assign (.inl rfl) rfl rfl ?_
      refine AtL.done ?_
      refine At.pick (H' := s6 :: H) [1] 2 rfl rfl ?_
      refine ihL1 (k + 1) [] (⟨A4, C5, x.l ++ [wd], s6, o7⟩) (⟨by omega, by rw [← hsp, pre1_at (w := wd) (k := k) (by omega), if_pos hc2]; simp, by simp; omega, by simp⟩) (by omega) _ ?_
      exact ⟨rfl, rfl, (by first | rfl | exact slLen (by simp []) | exact intEq (by omega) | exact intEq (by simp []) | exact slLen (by simp []; omega)), (by first | rfl | exact slLen (by simp []) | exact intEq (by omega) | exact intEq (by simp []) | exact slLen (by simp []; omega)), (by first | rfl | exact slLen (by simp []) | exact intEq (by omega) | exact intEq (by simp []) | exact slLen (by simp []; omega)), trivial⟩
    · intro hc2
      have hc2 : ¬ (((s.getD k 0).toNat : Int) = (c.toNat : Int)) := of_decide_eq_false hc2
      refine At.region ?_
      refine AtL.move (.inl rfl) rfl rfl ?_
      refine AtL.move (.inl rfl) rfl rfl ?_
      refine AtL.move (.inl rfl) rfl rfl ?_
      refine AtL.move (.inl rfl) rfl rfl ?_
      refine AtL.add (z := (k : Int) + 1) (.inl rfl) rfl rfl rfl (w64 (by omega) (by omega)) ?_
      refine AtL.sliceS (l := s) k (k + 1) (evBound_some rfl rfl) (evBound_some rfl rfl) (by omega) (by omega) Tryd.underlying9 (.inl rfl) rfl rfl ?_
      refine AtL.cat (.inl rfl) rfl rfl rfl (by first | omega | (simp only [List.length_append, List.length_cons, List.length_nil]; omega) | (simp; omega)) ?_
      refine AtL.assign (.inl rfl) rfl rfl ?_
      refine AtL.done ?_
      refine At.inBlock ?_
      refine At.region ?_
      refine AtL.move (.inl rfl) rfl rfl ?_
      refine AtL.add (z := (k : Int) + 1) (.inl rfl) rfl rfl rfl (w64 (by omega) (by omega)) ?_
      refine AtL.assign (.inl rfl) rfl rfl ?_
      refine AtL.done ?_
      refine ihL1 (k + 1) (wd ++ (subl s k (k + 1))) x (⟨by omega, by rw [← hsp, pre1_at (w := wd) (k := k) (by omega), if_neg hc2, sub_one (by omega)], by omega, by rw [sub_one (by omega)]; simp; omega⟩) (by omega) _ ?_
      exact ⟨rfl, rfl, (by first | rfl | exact slLen (by simp []) | exact intEq (by omega) | exact intEq (by simp []) | exact slLen (by simp []; omega)), (by first | rfl | exact slLen (by simp []) | exact intEq (by omega) | exact intEq (by simp []) | exact slLen (by simp []; omega)), (by first | rfl | exact slLen (by simp []) | exact intEq (by omega) | exact intEq (by simp []) | exact slLen (by simp []; omega)), trivial⟩
  · intro hc1
    have hc1 : ¬ ((k : Int) < (s.length : Int)) := of_decide_eq_false hc1
    refine At.exit rfl ?_
    refine At.seq ?_
    refine At.region ?_
    refine AtL.move (.inl rfl) rfl rfl ?_
    refine AtL.move (.inl rfl) rfl rfl ?_
    refine AtL.buildSlice (cs := [str wd]) Tryd.underlying38 tf_zero9 tf_sz9 rfl rfl (.inl rfl) rfl rfl rfl ?_
    intro b8
    refine AtL.own1 tyS (l := ([wd] : List (List UInt8))) rfl rfl (by first | decide | simp) ?_
    intro s9 o10
    refine AtL.append (l := x.l) (news := [wd]) 1 tf_el38 rfl x.own (o10.rd (i := 0) rfl) (by simp; omega) (.inl rfl) rfl rfl rfl ?_
    intro A11 C12 s13 o14
    refine AtL.assign (.inl rfl) rfl rfl ?_
    refine AtL.done ?_
    refine At.pick (H' := s13 :: H) [1] 2 rfl rfl ?_
    exact At.ret Tryd.func82 rfl rfl (⟨⟨A11, C12, x.l ++ [wd], s13, o14⟩, by rw [← hsp, List.drop_eq_nil_of_le (by omega)]; simp [pre1, spF], rfl, rfl⟩)

theorem rsplit_32 {w0 : World} {base : Nat} {H : List Seg} {s : List UInt8} (hl : s.length ≤ 4294967280) : SCalls Tryd.prog 82 [str s, .int .u8 32] w0 base H (fun v H' => ∃ y : Sl tyS 9, y.l = spF 32 s ∧ v = .slice y.A y.l.length y.C ∧ H' = y.s :: H) := by
  have h := rsplit_ok (w0 := w0) (base := base) (H := H) (s := s) 32 hl
  have e : ((32 : UInt8).toNat : Int) = 32 := by decide
  rw [e] at h
  exact h

theorem rsplit_44 {w0 : World} {base : Nat} {H : List Seg} {s : List UInt8} (hl : s.length ≤ 4294967280) : SCalls Tryd.prog 82 [str s, .int .u8 44] w0 base H (fun v H' => ∃ y : Sl tyS 9, y.l = spF 44 s ∧ v = .slice y.A y.l.length y.C ∧ H' = y.s :: H) := by
  have h := rsplit_ok (w0 := w0) (base := base) (H := H) (s := s) 44 hl
  have e : ((44 : UInt8).toNat : Int) = 44 := by decide
  rw [e] at h
  exact h

end Go.Proofs.YtlfkoimkojbghaaDoor
