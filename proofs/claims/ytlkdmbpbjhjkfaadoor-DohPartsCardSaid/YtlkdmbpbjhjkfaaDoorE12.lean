/- DohParts: the walk. -/
import Derived.Test.YtlkdmbpbjhjkfaaDoorE11
namespace Go.Proofs.YtlkdmbpbjhjkfaaDoor
set_option linter.unusedVariables false
set_option linter.unusedSimpArgs false
set_option maxRecDepth 100000

set_option maxHeartbeats 1000000 in
theorem dohparts_ok {w0 : World} {base : Nat} {H : List Seg} {A A1 A2 : Option Addr} {C C1 C2 : Nat} {b : List UInt8} {l1 l2 : List (List UInt8)} {o : List UInt8} (h : Rd tyB w0 base H A C b) (h1 : Rd tyS w0 base H A1 C1 l1) (h2 : Rd tyS w0 base H A2 C2 l2) (hb1 : ∀ x ∈ l1, x.length ≤ 140737488351232) (hb2 : ∀ x ∈ l2, x.length ≤ 140737488351232) (ho : o.length ≤ 140737488351232) (T : Tabs w0 base) :
    SCalls Tryd.prog 3 [.slice A b.length C, .slice A1 l1.length C1, .slice A2 l2.length C2, str o] w0 base (H) (fun v H' => v = .bool true ∧ H' = H) := by
  have hle0 := h.le
  have hcap0 := h.cap
  have hle1 := h1.le
  have hcap1 := h1.cap
  have hle2 := h2.le
  have hcap2 := h2.cap
  refine SCalls.of_walk (n := 148) Tryd.func3 rfl rfl rfl fun cs => ?_
  refine At.seq ?_
  refine At.region ?_
  refine AtL.assign (.inl rfl) rfl rfl ?_
  refine AtL.done ?_
  refine At.seq ?_
  refine At.region ?_
  refine AtL.call tf_body5 (.inl rfl) rfl rfl (awake16_ok T) ?_
  rintro _ _ ⟨rfl, hHq⟩
  obtain rfl := hHq.symm
  refine AtL.assign (.inl rfl) rfl rfl ?_
  refine AtL.done ?_
  refine At.seq ?_
  refine At.region ?_
  refine AtL.move (.inl rfl) rfl rfl ?_
  refine AtL.call tf_body6 (.inl rfl) rfl rfl (target_ok16 (b := b) h) ?_
  rintro _ _ ⟨rfl, hHq⟩
  obtain rfl := hHq.symm
  refine AtL.move (.inl rfl) rfl rfl ?_
  refine AtL.extract (.inl rfl) rfl rfl rfl ?_
  refine AtL.extract (.inl rfl) rfl rfl rfl ?_
  refine AtL.assign (.inl rfl) rfl rfl ?_
  refine AtL.assign (.inl rfl) rfl rfl ?_
  refine AtL.done ?_
  refine At.seq ?_
  refine At.seq ?_
  refine At.region ?_
  refine AtL.move (.inl rfl) rfl rfl ?_
  refine AtL.lenL Tryd.underlying22 (.inl rfl) rfl rfl ?_
  refine AtL.lss (.inl rfl) rfl rfl rfl ?_
  refine AtL.move (.inl rfl) rfl rfl ?_
  refine AtL.join 4 (E' := [(32, .bool (decide (((b.length : Int) < 12) ∨ (300 < (b.length : Int))))), (0, .slice A b.length C), (1, .slice A1 l1.length C1), (2, .slice A2 l2.length C2), (3, str o), (9, .bool true), (10, str ((targetF16 b).1)), (11, .bool ((targetF16 b).2))]) (H' := H) (fun J => ?_) ?_
  · refine AtL.split (t := 28) rfl ?_ ?_
    · intro hs28
      have hs28 : (b.length : Int) < 12 := of_decide_eq_true hs28
      refine AtL.skipped rfl rfl rfl rfl rfl rfl ?_
      refine AtL.skipped rfl rfl rfl rfl rfl rfl ?_
      refine AtL.skipped rfl rfl rfl rfl rfl rfl ?_
      refine AtL.pickT (.inl rfl) rfl rfl rfl ?_
      exact J _ (by exact ⟨(boolIs (by clear J; first | (simp [hs28]; done) | (simp_all; done) | grind)), rfl, rfl, rfl, rfl, rfl, rfl, rfl, trivial⟩)
    · intro hs28
      have hs28 : ¬ ((b.length : Int) < 12) := of_decide_eq_false hs28
      refine AtL.move (.inr ⟨_, _, _, rfl, rfl, rfl, rfl⟩) rfl rfl ?_
      refine AtL.lenL Tryd.underlying22 (.inr ⟨_, _, _, rfl, rfl, rfl, rfl⟩) rfl rfl ?_
      refine AtL.gtr (.inr ⟨_, _, _, rfl, rfl, rfl, rfl⟩) rfl rfl rfl ?_
      refine AtL.pickF (.inl rfl) rfl rfl rfl ?_
      exact J _ (by exact ⟨(boolIs (by clear J; first | (simp [hs28]; done) | (simp_all; done) | grind)), rfl, rfl, rfl, rfl, rfl, rfl, rfl, trivial⟩)
  · skip
    refine AtL.move (.inl rfl) rfl rfl ?_
    refine AtL.join 4 (E' := [(37, .bool (decide ((((b.length : Int) < 12) ∨ (300 < (b.length : Int))) ∨ (8 < (l1.length : Int))))), (0, .slice A b.length C), (1, .slice A1 l1.length C1), (2, .slice A2 l2.length C2), (3, str o), (9, .bool true), (10, str ((targetF16 b).1)), (11, .bool ((targetF16 b).2))]) (H' := H) (fun J => ?_) ?_
    · refine AtL.split (t := 33) rfl ?_ ?_
      · intro hs33
        have hs33 : ((b.length : Int) < 12) ∨ (300 < (b.length : Int)) := of_decide_eq_true hs33
        refine AtL.skipped rfl rfl rfl rfl rfl rfl ?_
        refine AtL.skipped rfl rfl rfl rfl rfl rfl ?_
        refine AtL.skipped rfl rfl rfl rfl rfl rfl ?_
        refine AtL.pickT (.inl rfl) rfl rfl rfl ?_
        exact J _ (by exact ⟨(boolIs (by clear J; first | (simp [hs33]; done) | (simp_all; done) | grind)), rfl, rfl, rfl, rfl, rfl, rfl, rfl, trivial⟩)
      · intro hs33
        have hs33 : ¬ (((b.length : Int) < 12) ∨ (300 < (b.length : Int))) := of_decide_eq_false hs33
        refine AtL.move (.inr ⟨_, _, _, rfl, rfl, rfl, rfl⟩) rfl rfl ?_
        refine AtL.lenL Tryd.underlying23 (.inr ⟨_, _, _, rfl, rfl, rfl, rfl⟩) rfl rfl ?_
        refine AtL.gtr (.inr ⟨_, _, _, rfl, rfl, rfl, rfl⟩) rfl rfl rfl ?_
        refine AtL.pickF (.inl rfl) rfl rfl rfl ?_
        exact J _ (by exact ⟨(boolIs (by clear J; first | (simp [hs33]; done) | (simp_all; done) | grind)), rfl, rfl, rfl, rfl, rfl, rfl, rfl, trivial⟩)
    · skip
      refine AtL.move (.inl rfl) rfl rfl ?_
      refine AtL.join 4 (E' := [(42, .bool (decide (((((b.length : Int) < 12) ∨ (300 < (b.length : Int))) ∨ (8 < (l1.length : Int))) ∨ (8 < (l2.length : Int))))), (0, .slice A b.length C), (1, .slice A1 l1.length C1), (2, .slice A2 l2.length C2), (3, str o), (9, .bool true), (10, str ((targetF16 b).1)), (11, .bool ((targetF16 b).2))]) (H' := H) (fun J => ?_) ?_
      · refine AtL.split (t := 38) rfl ?_ ?_
        · intro hs38
          have hs38 : (((b.length : Int) < 12) ∨ (300 < (b.length : Int))) ∨ (8 < (l1.length : Int)) := of_decide_eq_true hs38
          refine AtL.skipped rfl rfl rfl rfl rfl rfl ?_
          refine AtL.skipped rfl rfl rfl rfl rfl rfl ?_
          refine AtL.skipped rfl rfl rfl rfl rfl rfl ?_
          refine AtL.pickT (.inl rfl) rfl rfl rfl ?_
          exact J _ (by exact ⟨(boolIs (by clear J; first | (simp [hs38]; done) | (simp_all; done) | grind)), rfl, rfl, rfl, rfl, rfl, rfl, rfl, trivial⟩)
        · intro hs38
          have hs38 : ¬ ((((b.length : Int) < 12) ∨ (300 < (b.length : Int))) ∨ (8 < (l1.length : Int))) := of_decide_eq_false hs38
          refine AtL.move (.inr ⟨_, _, _, rfl, rfl, rfl, rfl⟩) rfl rfl ?_
          refine AtL.lenL Tryd.underlying23 (.inr ⟨_, _, _, rfl, rfl, rfl, rfl⟩) rfl rfl ?_
          refine AtL.gtr (.inr ⟨_, _, _, rfl, rfl, rfl, rfl⟩) rfl rfl rfl ?_
          refine AtL.pickF (.inl rfl) rfl rfl rfl ?_
          exact J _ (by exact ⟨(boolIs (by clear J; first | (simp [hs38]; done) | (simp_all; done) | grind)), rfl, rfl, rfl, rfl, rfl, rfl, rfl, trivial⟩)
      · skip
        refine AtL.move (.inl rfl) rfl rfl ?_
        refine AtL.join 4 (E' := [(47, .bool (decide ((((((b.length : Int) < 12) ∨ (300 < (b.length : Int))) ∨ (8 < (l1.length : Int))) ∨ (8 < (l2.length : Int))) ∨ ((plainF o) = false)))), (0, .slice A b.length C), (1, .slice A1 l1.length C1), (2, .slice A2 l2.length C2), (3, str o), (9, .bool true), (10, str ((targetF16 b).1)), (11, .bool ((targetF16 b).2))]) (H' := H) (fun J => ?_) ?_
        · refine AtL.split (t := 43) rfl ?_ ?_
          · intro hs43
            have hs43 : ((((b.length : Int) < 12) ∨ (300 < (b.length : Int))) ∨ (8 < (l1.length : Int))) ∨ (8 < (l2.length : Int)) := of_decide_eq_true hs43
            refine AtL.skipped rfl rfl rfl rfl rfl rfl ?_
            refine AtL.skipped rfl rfl rfl rfl rfl rfl ?_
            refine AtL.skipped rfl rfl rfl rfl rfl rfl ?_
            refine AtL.pickT (.inl rfl) rfl rfl rfl ?_
            exact J _ (by exact ⟨(boolIs (by clear J; first | (simp [hs43]; done) | (simp_all; done) | grind)), rfl, rfl, rfl, rfl, rfl, rfl, rfl, trivial⟩)
          · intro hs43
            have hs43 : ¬ (((((b.length : Int) < 12) ∨ (300 < (b.length : Int))) ∨ (8 < (l1.length : Int))) ∨ (8 < (l2.length : Int))) := of_decide_eq_false hs43
            refine AtL.move (.inr ⟨_, _, _, rfl, rfl, rfl, rfl⟩) rfl rfl ?_
            refine AtL.call tf_body7 (.inr ⟨_, _, _, rfl, rfl, rfl, rfl⟩) rfl rfl (plain16_ok (s := o) (by omega)) ?_
            rintro _ _ ⟨rfl, hHq⟩
            obtain rfl := hHq.symm
            refine AtL.not (.inr ⟨_, _, _, rfl, rfl, rfl, rfl⟩) rfl rfl ?_
            refine AtL.pickF (.inl rfl) rfl rfl rfl ?_
            exact J _ (by exact ⟨(boolIs (by clear J; first | (simp [hs43]; done) | (simp_all; done) | grind)), rfl, rfl, rfl, rfl, rfl, rfl, rfl, trivial⟩)
        · skip
          refine AtL.done ?_
          refine At.cond rfl ?_ ?_
          · intro hc1
            have hc1 : (((((b.length : Int) < 12) ∨ (300 < (b.length : Int))) ∨ (8 < (l1.length : Int))) ∨ (8 < (l2.length : Int))) ∨ ((plainF o) = false) := of_decide_eq_true hc1
            refine At.seq ?_
            refine At.region ?_
            refine AtL.move (.inl rfl) rfl rfl ?_
            refine AtL.move (.inl rfl) rfl rfl ?_
            refine AtL.move (.inr ⟨_, _, _, rfl, rfl, rfl, rfl⟩) rfl rfl ?_
            refine AtL.lenL Tryd.underlying22 (.inr ⟨_, _, _, rfl, rfl, rfl, rfl⟩) rfl rfl ?_
            refine AtL.geq (.inr ⟨_, _, _, rfl, rfl, rfl, rfl⟩) rfl rfl rfl ?_
            refine AtL.move (.inr ⟨_, _, _, rfl, rfl, rfl, rfl⟩) rfl rfl ?_
            refine AtL.join 3 (E' := [(56, .bool (decide ((12 ≤ (b.length : Int)) ∨ (((targetF16 b).2) = false)))), (49, .bool true)]) (H' := H) (fun J => ?_) ?_
            · refine AtL.split (t := 53) rfl ?_ ?_
              · intro hs53
                have hs53 : 12 ≤ (b.length : Int) := of_decide_eq_true hs53
                refine AtL.skipped rfl rfl rfl rfl rfl rfl ?_
                refine AtL.skipped rfl rfl rfl rfl rfl rfl ?_
                refine AtL.pickT (.inr ⟨_, _, _, rfl, rfl, rfl, rfl⟩) rfl rfl rfl ?_
                exact J _ (by exact ⟨(boolIs (by clear J; first | (simp [hs53]; done) | (simp_all; done) | grind)), rfl, trivial⟩)
              · intro hs53
                have hs53 : ¬ (12 ≤ (b.length : Int)) := of_decide_eq_false hs53
                refine AtL.move (.inr ⟨_, _, _, rfl, rfl, rfl, rfl⟩) rfl rfl ?_
                refine AtL.not (.inr ⟨_, _, _, rfl, rfl, rfl, rfl⟩) rfl rfl ?_
                refine AtL.pickF (.inr ⟨_, _, _, rfl, rfl, rfl, rfl⟩) rfl rfl rfl ?_
                exact J _ (by exact ⟨(boolIs (by clear J; first | (simp [hs53]; done) | (simp_all; done) | grind)), rfl, trivial⟩)
            · skip
              refine AtL.pickT (.inl rfl) rfl rfl rfl ?_
              refine AtL.assign (.inl rfl) rfl rfl ?_
              refine AtL.done ?_
              exact At.ret Tryd.func3 rfl rfl (⟨congrArg Value.bool (by by_cases h9 : b.length < 12; rw [target_few (.inl h9)]; simp; simp; omega), rfl⟩)
          · intro hc1
            have hc1 : ¬ ((((((b.length : Int) < 12) ∨ (300 < (b.length : Int))) ∨ (8 < (l1.length : Int))) ∨ (8 < (l2.length : Int))) ∨ ((plainF o) = false)) := of_decide_eq_false hc1
            simp only [not_or] at hc1
            have hpo : plainF o = true := by simpa using hc1.2
            have ht := target_300 (b := b) (by omega) (by omega)
            have hel := encB_len b
            have htl : (TPRE ++ encB b).length = 15 + (encB b).length := by rw [List.length_append]; rfl
            rw [ht]
            refine At.skip ?_
            refine At.seq ?_
            refine At.seq ?_
            refine At.region ?_
            refine AtL.move (.inl rfl) rfl rfl ?_
            refine AtL.not (.inl rfl) rfl rfl ?_
            refine AtL.move (.inl rfl) rfl rfl ?_
            refine AtL.move (.inr ⟨_, _, _, rfl, rfl, rfl, rfl⟩) rfl rfl ?_
            refine AtL.lenS (l := TPRE ++ encB b) Tryd.underlying9 (.inr ⟨_, _, _, rfl, rfl, rfl, rfl⟩) rfl rfl ?_
            refine AtL.lss (.inr ⟨_, _, _, rfl, rfl, rfl, rfl⟩) rfl rfl rfl ?_
            refine AtL.pickF (.inl rfl) rfl rfl rfl ?_
            refine AtL.done ?_
            refine At.cond rfl ?_ ?_
            · intro hc2
              have hc2 : ((TPRE ++ encB b).length : Int) < 11 := of_decide_eq_true hc2
              exfalso; omega
            · intro hc2
              have hc2 : ¬ (((TPRE ++ encB b).length : Int) < 11) := of_decide_eq_false hc2
              refine At.skip ?_
              refine At.seq ?_
              refine At.region ?_
              refine AtL.assign (.inl rfl) rfl rfl ?_
              refine AtL.done ?_
              refine At.seq ?_
              refine At.seq ?_
              refine At.region ?_
              refine AtL.assign (.inl rfl) rfl rfl ?_
              refine AtL.done ?_
              refine At.block ?_
              refine At.loop2 (fun (k : Nat) (q : List UInt8) => [(0, .slice A b.length C), (1, .slice A1 l1.length C1), (2, .slice A2 l2.length C2), (3, str o), (9, .bool true), (10, str (TPRE ++ encB b)), (12, str q), (13, .int .i64 (k : Int))]) (fun (k : Nat) (q : List UInt8) => H) (fun (k : Nat) (q : List UInt8) => k ≤ l1.length ∧ q = aheadF (l1.take k) ∧ (∀ j, j < k → plainF (l1.getD j []) = true) ∧ q.length ≤ 21 * k) (fun (k : Nat) (q : List UInt8) => l1.length - k) 0 [] (⟨Nat.zero_le _, rfl, fun j hj => absurd hj (by omega), Nat.zero_le _⟩) ⟨rfl, rfl, rfl, rfl, rfl, rfl, rfl, rfl, trivial⟩ rfl ?_
              rintro k q ⟨hk, hq, hpa, hql⟩ ihL1
              refine At.seq ?_
              refine At.seq ?_
              refine At.region ?_
              refine AtL.move (.inl rfl) rfl rfl ?_
              refine AtL.move (.inl rfl) rfl rfl ?_
              refine AtL.lenL Tryd.underlying23 (.inl rfl) rfl rfl ?_
              refine AtL.lss (.inl rfl) rfl rfl rfl ?_
              refine AtL.done ?_
              refine At.cond rfl ?_ ?_
              · intro hc3
                have hc3 : (k : Int) < (l1.length : Int) := of_decide_eq_true hc3
                have hbk := hb1 _ (getD_mem (l := l1) (i := k) (d := ([] : List UInt8)) (by omega))
                refine At.skip ?_
                refine At.seq ?_
                refine At.block ?_
                refine At.seq ?_
                refine At.seq ?_
                refine At.region ?_
                refine AtL.move (.inl rfl) rfl rfl ?_
                refine AtL.move (.inl rfl) rfl rfl ?_
                refine AtL.indexL k h1 Tryd.underlying23 tf_sz9 (.inl rfl) rfl rfl rfl rfl (by omega) ?_
                refine AtL.load (v := str (l1.getD k [])) tf_flat9 (.inl rfl) rfl rfl (Rd.cell0 h1 (getD_some [] (by omega)) rfl) ?_
                refine AtL.call tf_body7 (.inl rfl) rfl rfl (plain16_ok (s := (l1.getD k [])) (by omega)) ?_
                rintro _ _ ⟨rfl, hHq⟩
                obtain rfl := hHq.symm
                refine AtL.not (.inl rfl) rfl rfl ?_
                refine AtL.done ?_
                refine At.cond rfl ?_ ?_
                · intro hc4
                  have hc4 : (plainF (l1.getD k [])) = false := bnot_true hc4
                  refine At.seq ?_
                  refine At.region ?_
                  refine AtL.move (.inl rfl) rfl rfl ?_
                  refine AtL.assign (.inl rfl) rfl rfl ?_
                  refine AtL.done ?_
                  exact At.ret Tryd.func3 rfl rfl (⟨by first | rfl | simp, rfl⟩)
                · intro hc4
                  have hc4 : (plainF (l1.getD k [])) = true := bnot_false hc4
                  have hp4 : plainF (l1.getD k []) = true := by simpa using hc4
                  have hpl4 : (l1.getD k []).length ≤ 20 := by have h9 := hp4; simp only [plainF, Bool.and_eq_true, decide_eq_true_eq] at h9; exact h9.1
                  refine At.skip ?_
                  refine At.region ?_
                  refine AtL.move (.inl rfl) rfl rfl ?_
                  refine AtL.move (.inl rfl) rfl rfl ?_
                  refine AtL.move (.inl rfl) rfl rfl ?_
                  refine AtL.indexL k h1 Tryd.underlying23 tf_sz9 (.inl rfl) rfl rfl rfl rfl (by omega) ?_
                  refine AtL.load (v := str (l1.getD k [])) tf_flat9 (.inl rfl) rfl rfl (Rd.cell0 h1 (getD_some [] (by omega)) rfl) ?_
                  refine AtL.cat (.inl rfl) rfl rfl rfl (by first | omega | (simp only [List.length_append, List.length_cons, List.length_nil]; omega) | (simp; omega)) ?_
                  refine AtL.cat (.inl rfl) rfl rfl rfl (by first | omega | (simp only [List.length_append, List.length_cons, List.length_nil]; omega) | (simp; omega)) ?_
                  refine AtL.assign (.inl rfl) rfl rfl ?_
                  refine AtL.done ?_
                  refine At.inBlock ?_
                  refine At.region ?_
                  refine AtL.move (.inl rfl) rfl rfl ?_
                  refine AtL.add (z := (k : Int) + 1) (.inl rfl) rfl rfl rfl (w64 (by omega) (by omega)) ?_
                  refine AtL.assign (.inl rfl) rfl rfl ?_
                  refine AtL.done ?_
                  refine ihL1 (k + 1) ((q ++ (l1.getD k [])) ++ [38]) (⟨by omega, by rw [ahead_snoc l1 k (by omega), ← hq, List.append_assoc], fun j hj => by rcases Nat.lt_or_ge j k with h3 | h3; exact hpa j h3; obtain rfl : j = k := (by omega); exact hp4, by simp only [List.length_append, List.length_cons, List.length_nil]; omega⟩) (by omega) _ ?_
                  exact ⟨rfl, rfl, rfl, rfl, rfl, rfl, (by first | rfl | exact slLen (by simp []) | exact intEq (by omega) | exact intEq (by simp []) | exact slLen (by simp []; omega)), (by first | rfl | exact slLen (by simp []) | exact intEq (by omega) | exact intEq (by simp []) | exact slLen (by simp []; omega)), trivial⟩
              · intro hc3
                have hc3 : ¬ ((k : Int) < (l1.length : Int)) := of_decide_eq_false hc3
                rw [List.take_of_length_le (by omega)] at hq
                have hs11 : (subl (TPRE ++ encB b) 11 (TPRE ++ encB b).length).length = 4 + (encB b).length := by rw [sub11, List.length_append]; rfl
                refine At.exit rfl ?_
                refine At.seq ?_
                refine At.region ?_
                refine AtL.move (.inl rfl) rfl rfl ?_
                refine AtL.move (.inl rfl) rfl rfl ?_
                refine AtL.sliceS (l := TPRE ++ encB b) 11 (TPRE ++ encB b).length (evBound_some rfl rfl) rfl (by omega) (by omega) Tryd.underlying9 (.inl rfl) rfl rfl ?_
                refine AtL.cat (.inl rfl) rfl rfl rfl (by first | omega | (simp only [List.length_append, List.length_cons, List.length_nil]; omega) | (simp; omega)) ?_
                refine AtL.assign (.inl rfl) rfl rfl ?_
                refine AtL.done ?_
                refine At.seq ?_
                refine At.seq ?_
                refine At.region ?_
                refine AtL.assign (.inl rfl) rfl rfl ?_
                refine AtL.done ?_
                refine At.block ?_
                refine At.loop2 (fun (k2 : Nat) (q2 : List UInt8) => [(0, .slice A b.length C), (2, .slice A2 l2.length C2), (3, str o), (9, .bool true), (12, str q2), (14, .int .i64 (k2 : Int))]) (fun (k2 : Nat) (q2 : List UInt8) => H) (fun (k2 : Nat) (q2 : List UInt8) => k2 ≤ l2.length ∧ q2 = aheadF l1 ++ (DNSE ++ (encB b ++ behindF (l2.take k2))) ∧ (∀ j, j < k2 → plainF (l2.getD j []) = true) ∧ q2.length ≤ 600 + 21 * k2) (fun (k2 : Nat) (q2 : List UInt8) => l2.length - k2) 0 (q ++ (subl (TPRE ++ encB b) 11 (TPRE ++ encB b).length)) (⟨Nat.zero_le _, by rw [hq, sub11]; simp [behindF], fun j hj => absurd hj (by omega), by rw [sub11]; simp only [List.length_append, DNSE, List.length_cons, List.length_nil]; omega⟩) ⟨rfl, rfl, rfl, rfl, rfl, rfl, trivial⟩ rfl ?_
                rintro k2 q2 ⟨hk2, hq2, hpb, hql2⟩ ihL2
                refine At.seq ?_
                refine At.seq ?_
                refine At.region ?_
                refine AtL.move (.inl rfl) rfl rfl ?_
                refine AtL.move (.inl rfl) rfl rfl ?_
                refine AtL.lenL Tryd.underlying23 (.inl rfl) rfl rfl ?_
                refine AtL.lss (.inl rfl) rfl rfl rfl ?_
                refine AtL.done ?_
                refine At.cond rfl ?_ ?_
                · intro hc5
                  have hc5 : (k2 : Int) < (l2.length : Int) := of_decide_eq_true hc5
                  have hbk2 := hb2 _ (getD_mem (l := l2) (i := k2) (d := ([] : List UInt8)) (by omega))
                  refine At.skip ?_
                  refine At.seq ?_
                  refine At.block ?_
                  refine At.seq ?_
                  refine At.seq ?_
                  refine At.region ?_
                  refine AtL.move (.inl rfl) rfl rfl ?_
                  refine AtL.move (.inl rfl) rfl rfl ?_
                  refine AtL.indexL k2 h2 Tryd.underlying23 tf_sz9 (.inl rfl) rfl rfl rfl rfl (by omega) ?_
                  refine AtL.load (v := str (l2.getD k2 [])) tf_flat9 (.inl rfl) rfl rfl (Rd.cell0 h2 (getD_some [] (by omega)) rfl) ?_
                  refine AtL.call tf_body7 (.inl rfl) rfl rfl (plain16_ok (s := (l2.getD k2 [])) (by omega)) ?_
                  rintro _ _ ⟨rfl, hHq⟩
                  obtain rfl := hHq.symm
                  refine AtL.not (.inl rfl) rfl rfl ?_
                  refine AtL.done ?_
                  refine At.cond rfl ?_ ?_
                  · intro hc6
                    have hc6 : (plainF (l2.getD k2 [])) = false := bnot_true hc6
                    refine At.seq ?_
                    refine At.region ?_
                    refine AtL.move (.inl rfl) rfl rfl ?_
                    refine AtL.assign (.inl rfl) rfl rfl ?_
                    refine AtL.done ?_
                    exact At.ret Tryd.func3 rfl rfl (⟨by first | rfl | simp, rfl⟩)
                  · intro hc6
                    have hc6 : (plainF (l2.getD k2 [])) = true := bnot_false hc6
                    have hp6 : plainF (l2.getD k2 []) = true := by simpa using hc6
                    have hpl6 : (l2.getD k2 []).length ≤ 20 := by have h9 := hp6; simp only [plainF, Bool.and_eq_true, decide_eq_true_eq] at h9; exact h9.1
                    refine At.skip ?_
                    refine At.region ?_
                    refine AtL.move (.inl rfl) rfl rfl ?_
                    refine AtL.cat (.inl rfl) rfl rfl rfl (by first | omega | (simp only [List.length_append, List.length_cons, List.length_nil]; omega) | (simp; omega)) ?_
                    refine AtL.move (.inl rfl) rfl rfl ?_
                    refine AtL.move (.inl rfl) rfl rfl ?_
                    refine AtL.indexL k2 h2 Tryd.underlying23 tf_sz9 (.inl rfl) rfl rfl rfl rfl (by omega) ?_
                    refine AtL.load (v := str (l2.getD k2 [])) tf_flat9 (.inl rfl) rfl rfl (Rd.cell0 h2 (getD_some [] (by omega)) rfl) ?_
                    refine AtL.cat (.inl rfl) rfl rfl rfl (by first | omega | (simp only [List.length_append, List.length_cons, List.length_nil]; omega) | (simp; omega)) ?_
                    refine AtL.assign (.inl rfl) rfl rfl ?_
                    refine AtL.done ?_
                    refine At.inBlock ?_
                    refine At.region ?_
                    refine AtL.move (.inl rfl) rfl rfl ?_
                    refine AtL.add (z := (k2 : Int) + 1) (.inl rfl) rfl rfl rfl (w64 (by omega) (by omega)) ?_
                    refine AtL.assign (.inl rfl) rfl rfl ?_
                    refine AtL.done ?_
                    refine ihL2 (k2 + 1) ((q2 ++ [38]) ++ (l2.getD k2 [])) (⟨by omega, by rw [behind_snoc l2 k2 (by omega), hq2]; simp only [List.append_assoc, List.cons_append, List.nil_append], fun j hj => by rcases Nat.lt_or_ge j k2 with h3 | h3; exact hpb j h3; obtain rfl : j = k2 := (by omega); exact hp6, by simp only [List.length_append, List.length_cons, List.length_nil]; omega⟩) (by omega) _ ?_
                    exact ⟨rfl, rfl, rfl, rfl, (by first | rfl | exact slLen (by simp []) | exact intEq (by omega) | exact intEq (by simp []) | exact slLen (by simp []; omega)), (by first | rfl | exact slLen (by simp []) | exact intEq (by omega) | exact intEq (by simp []) | exact slLen (by simp []; omega)), trivial⟩
                · intro hc5
                  have hc5 : ¬ ((k2 : Int) < (l2.length : Int)) := of_decide_eq_false hc5
                  rw [List.take_of_length_le (by omega)] at hq2
                  have hA : ∀ y ∈ l1, plainF y = true := fun y hy => by obtain ⟨j, hj, rfl⟩ := List.mem_iff_getElem.1 hy; have := hpa j (by omega); rwa [show l1.getD j [] = l1[j] by simp [List.getD, hj]] at this
                  have hol : o.length ≤ 20 := by have h9 := hpo; simp only [plainF, Bool.and_eq_true, decide_eq_true_eq] at h9; exact h9.1
                  refine At.exit rfl ?_
                  refine At.seq ?_
                  refine At.region ?_
                  refine AtL.move (.inl rfl) rfl rfl ?_
                  refine AtL.cat (.inl rfl) rfl rfl rfl (by first | omega | (simp only [List.length_append, List.length_cons, List.length_nil]; omega) | (simp; omega)) ?_
                  refine AtL.cat (.inl rfl) rfl rfl rfl (by first | omega | (simp only [List.length_append, List.length_cons, List.length_nil]; omega) | (simp; omega)) ?_
                  refine AtL.move (.inl rfl) rfl rfl ?_
                  refine AtL.cat (.inl rfl) rfl rfl rfl (by first | omega | (simp only [List.length_append, List.length_cons, List.length_nil]; omega) | (simp; omega)) ?_
                  refine AtL.call tf_body9 (.inl rfl) rfl rfl (get16_ok (m := [71, 69, 84]) (t := (([47, 100, 110, 115, 45, 113, 117, 101, 114, 121, 63] ++ q2) ++ [38, 100, 110, 115, 61]) ++ o)) ?_
                  rintro _ _ ⟨⟨A1, C2, l3, s4, o5⟩, hx6, rfl, rfl⟩
                  obtain rfl : [(([72, 111, 115, 116] : List UInt8), ([120] : List UInt8))] = l3 := hx6.symm
                  have hask1 : askF [71, 69, 84] ((([47, 100, 110, 115, 45, 113, 117, 101, 114, 121, 63] ++ q2) ++ [38, 100, 110, 115, 61]) ++ o) [(([72, 111, 115, 116] : List UInt8), ([120] : List UInt8))] [] = (b, 200) := by
                    obtain ⟨v, hv⟩ := beh_head l2 ([100, 110, 115, 61] ++ o)
                    have h8 := parts_good (b := b) (v := v) hA (by omega) (by omega) [(([72, 111, 115, 116] : List UInt8), ([120] : List UInt8))]
                    rw [← hv] at h8
                    rw [show (([47, 100, 110, 115, 45, 113, 117, 101, 114, 121, 63] ++ q2) ++ [38, 100, 110, 115, 61]) ++ o = DNSQ ++ 63 :: (aheadF l1 ++ (DNSE ++ (encB b ++ (behindF l2 ++ 38 :: ([100, 110, 115, 61] ++ o))))) by rw [hq2]; simp [DNSQ]]
                    exact h8
                  obtain ⟨tt1, htt1⟩ : ∃ tt1 : List UInt8, tt1 = (([47, 100, 110, 115, 45, 113, 117, 101, 114, 121, 63] ++ q2) ++ [38, 100, 110, 115, 61]) ++ o := ⟨_, rfl⟩
                  have htt1l : tt1.length ≤ 4294967280 := by rw [htt1]; simp only [List.length_append, List.length_cons, List.length_nil]; omega
                  rw [← htt1] at hask1
                  rw [← htt1]
                  refine AtL.call tf_body8 (.inl rfl) rfl rfl (ask_kn (Ab := none) (Cb := 0) (body := []) (m := [71, 69, 84]) (t := tt1) hask1 (o5.rd (i := 0) rfl) Rd.nil_ ho16.1 ho16.2 (by decide) htt1l T) ?_
                  rintro _ _ ⟨⟨A7, C8, l9, s10, o11⟩, hx12, rfl, rfl⟩
                  obtain rfl : b = l9 := hx12.symm
                  refine AtL.move (.inl rfl) rfl rfl ?_
                  refine AtL.extract (.inl rfl) rfl rfl rfl ?_
                  refine AtL.extract (.inl rfl) rfl rfl rfl ?_
                  refine AtL.assign (.inl rfl) rfl rfl ?_
                  refine AtL.assign (.inl rfl) rfl rfl ?_
                  refine AtL.done ?_
                  refine At.seq ?_
                  refine At.region ?_
                  refine AtL.move (.inl rfl) rfl rfl ?_
                  refine AtL.cat (.inl rfl) rfl rfl rfl (by first | omega | (simp only [List.length_append, List.length_cons, List.length_nil]; omega) | (simp; omega)) ?_
                  refine AtL.cat (.inl rfl) rfl rfl rfl (by first | omega | (simp only [List.length_append, List.length_cons, List.length_nil]; omega) | (simp; omega)) ?_
                  refine AtL.move (.inl rfl) rfl rfl ?_
                  refine AtL.cat (.inl rfl) rfl rfl rfl (by first | omega | (simp only [List.length_append, List.length_cons, List.length_nil]; omega) | (simp; omega)) ?_
                  refine AtL.call tf_body9 (.inl rfl) rfl rfl (get16_ok (m := [71, 69, 84]) (t := (([47, 100, 110, 115, 45, 113, 117, 101, 114, 121, 47] ++ o) ++ [63]) ++ q2)) ?_
                  rintro _ _ ⟨⟨A13, C14, l15, s16, o17⟩, hx18, rfl, rfl⟩
                  obtain rfl : [(([72, 111, 115, 116] : List UInt8), ([120] : List UInt8))] = l15 := hx18.symm
                  have hask2 : askF [71, 69, 84] ((([47, 100, 110, 115, 45, 113, 117, 101, 114, 121, 47] ++ o) ++ [63]) ++ q2) [(([72, 111, 115, 116] : List UInt8), ([120] : List UInt8))] [] = ([], 404) := by
                    rw [show (([47, 100, 110, 115, 45, 113, 117, 101, 114, 121, 47] ++ o) ++ [63]) ++ q2 = DNSQ ++ 47 :: (o ++ 63 :: q2) by simp [DNSQ]]
                    exact parts_other hpo _ _
                  obtain ⟨tt2, htt2⟩ : ∃ tt2 : List UInt8, tt2 = (([47, 100, 110, 115, 45, 113, 117, 101, 114, 121, 47] ++ o) ++ [63]) ++ q2 := ⟨_, rfl⟩
                  have htt2l : tt2.length ≤ 4294967280 := by rw [htt2]; simp only [List.length_append, List.length_cons, List.length_nil]; omega
                  rw [← htt2] at hask2
                  rw [← htt2]
                  refine AtL.call tf_body8 (.inl rfl) rfl rfl (ask_kn (Ab := none) (Cb := 0) (body := []) (m := [71, 69, 84]) (t := tt2) hask2 (o17.rd (i := 0) rfl) Rd.nil_ ho16.1 ho16.2 (by decide) htt2l T) ?_
                  rintro _ _ ⟨⟨A19, C20, l21, s22, o23⟩, hx24, rfl, rfl⟩
                  obtain rfl : ([] : List UInt8) = l21 := hx24.symm
                  refine AtL.move (.inl rfl) rfl rfl ?_
                  refine AtL.extract (.inl rfl) rfl rfl rfl ?_
                  refine AtL.extract (.inl rfl) rfl rfl rfl ?_
                  refine AtL.assign (.inl rfl) rfl rfl ?_
                  refine AtL.assign (.inl rfl) rfl rfl ?_
                  refine AtL.done ?_
                  refine At.seq ?_
                  refine At.region ?_
                  refine AtL.move (.inl rfl) rfl rfl ?_
                  refine AtL.move (.inl rfl) rfl rfl ?_
                  refine AtL.move (.inr ⟨_, _, _, rfl, rfl, rfl, rfl⟩) rfl rfl ?_
                  refine AtL.eqi (.inr ⟨_, _, _, rfl, rfl, rfl, rfl⟩) rfl rfl rfl ?_
                  refine AtL.pickT (.inl rfl) rfl rfl rfl ?_
                  refine AtL.move (.inl rfl) rfl rfl ?_
                  refine AtL.move (.inr ⟨_, _, _, rfl, rfl, rfl, rfl⟩) rfl rfl ?_
                  refine AtL.move (.inr ⟨_, _, _, rfl, rfl, rfl, rfl⟩) rfl rfl ?_
                  refine AtL.call tf_body10 (.inr ⟨_, _, _, rfl, rfl, rfl, rfl⟩) rfl rfl (same_ok (l := b) (l2 := b) (o11.rd (i := 2) rfl) (Rd.skip 4 h)) ?_
                  rintro _ _ ⟨rfl, rfl⟩
                  refine AtL.pickT (.inl rfl) rfl rfl rfl ?_
                  refine AtL.move (.inl rfl) rfl rfl ?_
                  refine AtL.join 3 (E' := [(142, .bool true), (17, .slice A19 ([] : List UInt8).length C20)]) (H' := s22 :: s16 :: s10 :: s4 :: H) (fun J => ?_) ?_
                  · refine AtL.split (t := 139) rfl ?_ ?_
                    · intro hs139
                      have hs139 : b = b := of_decide_eq_true hs139
                      refine AtL.move (.inr ⟨_, _, _, rfl, rfl, rfl, rfl⟩) rfl rfl ?_
                      refine AtL.eqi (.inr ⟨_, _, _, rfl, rfl, rfl, rfl⟩) rfl rfl rfl ?_
                      refine AtL.pickT (.inl rfl) rfl rfl rfl ?_
                      exact J _ (by exact ⟨rfl, rfl, trivial⟩)
                    · intro hs139
                      exact Bool.noConfusion (hs139.symm.trans (decide_eq_true rfl))
                  · skip
                    refine AtL.move (.inl rfl) rfl rfl ?_
                    refine AtL.move (.inr ⟨_, _, _, rfl, rfl, rfl, rfl⟩) rfl rfl ?_
                    refine AtL.lenL Tryd.underlying22 (.inr ⟨_, _, _, rfl, rfl, rfl, rfl⟩) rfl rfl ?_
                    refine AtL.eqi (.inr ⟨_, _, _, rfl, rfl, rfl, rfl⟩) rfl rfl rfl ?_
                    refine AtL.pickT (.inl rfl) rfl rfl rfl ?_
                    refine AtL.assign (.inl rfl) rfl rfl ?_
                    refine AtL.done ?_
                    refine At.pick (H' := H) [] 4 rfl rfl ?_
                    exact At.ret Tryd.func3 rfl rfl (⟨by first | rfl | simp, rfl⟩)

end Go.Proofs.YtlkdmbpbjhjkfaaDoor
