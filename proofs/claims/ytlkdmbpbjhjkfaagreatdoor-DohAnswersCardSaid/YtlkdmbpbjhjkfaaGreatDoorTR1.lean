/- The answer beside heads: bytes and words. -/
import Derived.Test.YtlkdmbpbjhjkfaaGreatDoorT6
namespace Go.Proofs.YtlkdmbpbjhjkfaaGreatDoor
set_option linter.unusedVariables false
set_option linter.unusedSimpArgs false
set_option maxRecDepth 100000

set_option maxHeartbeats 400000 in
theorem rletter_ok {w0 : World} {base : Nat} {H : List Seg} (c : UInt8) :
    SCalls Tryz.prog 157 [.int .u8 (c.toNat : Int)] w0 base (H) (fun v H' => v = .bool (letterF c) ∧ H' = H) := by
  refine SCalls.of_walk (n := 67) Tryz.func157 rfl rfl rfl fun cs => ?_
  refine At.seq ?_
  refine At.region ?_
  refine AtL.assign (.inl rfl) rfl rfl ?_
  refine AtL.done ?_
  refine At.seq ?_
  refine At.seq ?_
  refine At.region ?_
  refine AtL.move (.inl rfl) rfl rfl ?_
  refine AtL.geq (.inl rfl) rfl rfl rfl ?_
  refine AtL.move (.inl rfl) rfl rfl ?_
  refine AtL.join 3 (E' := [(8, .bool (decide ((48 ≤ (c.toNat : Int)) ∧ ((c.toNat : Int) ≤ 57)))), (0, .int .u8 (c.toNat : Int))]) (H' := H) (fun J => ?_) ?_
  · refine AtL.split (t := 5) rfl ?_ ?_
    · intro hs5
      have hs5 : 48 ≤ (c.toNat : Int) := of_decide_eq_true hs5
      refine AtL.move (.inr ⟨_, _, _, rfl, rfl, rfl, rfl⟩) rfl rfl ?_
      refine AtL.leq (.inr ⟨_, _, _, rfl, rfl, rfl, rfl⟩) rfl rfl rfl ?_
      refine AtL.pickT (.inl rfl) rfl rfl rfl ?_
      exact J _ (by exact ⟨(boolIs (by clear J; first | (simp [hs5]; done) | (simp_all; done) | grind)), rfl, trivial⟩)
    · intro hs5
      have hs5 : ¬ (48 ≤ (c.toNat : Int)) := of_decide_eq_false hs5
      refine AtL.skipped rfl rfl rfl rfl rfl rfl ?_
      refine AtL.skipped rfl rfl rfl rfl rfl rfl ?_
      refine AtL.pickF (.inl rfl) rfl rfl rfl ?_
      exact J _ (by exact ⟨(boolIs (by clear J; first | (simp [hs5]; done) | (simp_all; done) | grind)), rfl, trivial⟩)
  · skip
    refine AtL.move (.inl rfl) rfl rfl ?_
    refine AtL.join 7 (E' := [(16, .bool (decide (((48 ≤ (c.toNat : Int)) ∧ ((c.toNat : Int) ≤ 57)) ∨ ((65 ≤ (c.toNat : Int)) ∧ ((c.toNat : Int) ≤ 90))))), (0, .int .u8 (c.toNat : Int))]) (H' := H) (fun J => ?_) ?_
    · refine AtL.split (t := 9) rfl ?_ ?_
      · intro hs9
        have hs9 : (48 ≤ (c.toNat : Int)) ∧ ((c.toNat : Int) ≤ 57) := of_decide_eq_true hs9
        refine AtL.skipped rfl rfl rfl rfl rfl rfl ?_
        refine AtL.skipped rfl rfl rfl rfl rfl rfl ?_
        refine AtL.skipped rfl rfl rfl rfl rfl rfl ?_
        refine AtL.skippedU rfl rfl rfl rfl rfl ?_
        refine AtL.skippedU rfl rfl rfl rfl rfl ?_
        refine AtL.skipped rfl rfl rfl rfl rfl rfl ?_
        refine AtL.pickT (.inl rfl) rfl rfl rfl ?_
        exact J _ (by exact ⟨(boolIs (by clear J; first | (simp [hs9]; done) | (simp_all; done) | grind)), rfl, trivial⟩)
      · intro hs9
        have hs9 : ¬ ((48 ≤ (c.toNat : Int)) ∧ ((c.toNat : Int) ≤ 57)) := of_decide_eq_false hs9
        refine AtL.move (.inr ⟨_, _, _, rfl, rfl, rfl, rfl⟩) rfl rfl ?_
        refine AtL.geq (.inr ⟨_, _, _, rfl, rfl, rfl, rfl⟩) rfl rfl rfl ?_
        refine AtL.move (.inr ⟨_, _, _, rfl, rfl, rfl, rfl⟩) rfl rfl ?_
        refine AtL.join 3 (E' := [(15, .bool (decide ((65 ≤ (c.toNat : Int)) ∧ ((c.toNat : Int) ≤ 90)))), (0, .int .u8 (c.toNat : Int)), (9, .bool false)]) (H' := H) (fun J => ?_) ?_
        · refine AtL.split (t := 12) rfl ?_ ?_
          · intro hs12
            have hs12 : 65 ≤ (c.toNat : Int) := of_decide_eq_true hs12
            refine AtL.move (.inr ⟨_, _, _, rfl, rfl, rfl, rfl⟩) rfl rfl ?_
            refine AtL.leq (.inr ⟨_, _, _, rfl, rfl, rfl, rfl⟩) rfl rfl rfl ?_
            refine AtL.pickT (.inr ⟨_, _, _, rfl, rfl, rfl, rfl⟩) rfl rfl rfl ?_
            exact J _ (by exact ⟨(boolIs (by clear J; first | (simp [hs12]; done) | (simp_all; done) | grind)), rfl, rfl, trivial⟩)
          · intro hs12
            have hs12 : ¬ (65 ≤ (c.toNat : Int)) := of_decide_eq_false hs12
            refine AtL.skipped rfl rfl rfl rfl rfl rfl ?_
            refine AtL.skipped rfl rfl rfl rfl rfl rfl ?_
            refine AtL.pickF (.inr ⟨_, _, _, rfl, rfl, rfl, rfl⟩) rfl rfl rfl ?_
            exact J _ (by exact ⟨(boolIs (by clear J; first | (simp [hs12]; done) | (simp_all; done) | grind)), rfl, rfl, trivial⟩)
        · skip
          refine AtL.pickF (.inl rfl) rfl rfl rfl ?_
          exact J _ (by exact ⟨(boolIs (by clear J; first | (simp [hs9]; done) | (simp_all; done) | grind)), rfl, trivial⟩)
    · skip
      refine AtL.move (.inl rfl) rfl rfl ?_
      refine AtL.join 7 (E' := [(24, .bool (decide ((((48 ≤ (c.toNat : Int)) ∧ ((c.toNat : Int) ≤ 57)) ∨ ((65 ≤ (c.toNat : Int)) ∧ ((c.toNat : Int) ≤ 90))) ∨ ((97 ≤ (c.toNat : Int)) ∧ ((c.toNat : Int) ≤ 122))))), (0, .int .u8 (c.toNat : Int))]) (H' := H) (fun J => ?_) ?_
      · refine AtL.split (t := 17) rfl ?_ ?_
        · intro hs17
          have hs17 : ((48 ≤ (c.toNat : Int)) ∧ ((c.toNat : Int) ≤ 57)) ∨ ((65 ≤ (c.toNat : Int)) ∧ ((c.toNat : Int) ≤ 90)) := of_decide_eq_true hs17
          refine AtL.skipped rfl rfl rfl rfl rfl rfl ?_
          refine AtL.skipped rfl rfl rfl rfl rfl rfl ?_
          refine AtL.skipped rfl rfl rfl rfl rfl rfl ?_
          refine AtL.skippedU rfl rfl rfl rfl rfl ?_
          refine AtL.skippedU rfl rfl rfl rfl rfl ?_
          refine AtL.skipped rfl rfl rfl rfl rfl rfl ?_
          refine AtL.pickT (.inl rfl) rfl rfl rfl ?_
          exact J _ (by exact ⟨(boolIs (by clear J; first | (simp [hs17]; done) | (simp_all; done) | grind)), rfl, trivial⟩)
        · intro hs17
          have hs17 : ¬ (((48 ≤ (c.toNat : Int)) ∧ ((c.toNat : Int) ≤ 57)) ∨ ((65 ≤ (c.toNat : Int)) ∧ ((c.toNat : Int) ≤ 90))) := of_decide_eq_false hs17
          refine AtL.move (.inr ⟨_, _, _, rfl, rfl, rfl, rfl⟩) rfl rfl ?_
          refine AtL.geq (.inr ⟨_, _, _, rfl, rfl, rfl, rfl⟩) rfl rfl rfl ?_
          refine AtL.move (.inr ⟨_, _, _, rfl, rfl, rfl, rfl⟩) rfl rfl ?_
          refine AtL.join 3 (E' := [(23, .bool (decide ((97 ≤ (c.toNat : Int)) ∧ ((c.toNat : Int) ≤ 122)))), (0, .int .u8 (c.toNat : Int)), (17, .bool false)]) (H' := H) (fun J => ?_) ?_
          · refine AtL.split (t := 20) rfl ?_ ?_
            · intro hs20
              have hs20 : 97 ≤ (c.toNat : Int) := of_decide_eq_true hs20
              refine AtL.move (.inr ⟨_, _, _, rfl, rfl, rfl, rfl⟩) rfl rfl ?_
              refine AtL.leq (.inr ⟨_, _, _, rfl, rfl, rfl, rfl⟩) rfl rfl rfl ?_
              refine AtL.pickT (.inr ⟨_, _, _, rfl, rfl, rfl, rfl⟩) rfl rfl rfl ?_
              exact J _ (by exact ⟨(boolIs (by clear J; first | (simp [hs20]; done) | (simp_all; done) | grind)), rfl, rfl, trivial⟩)
            · intro hs20
              have hs20 : ¬ (97 ≤ (c.toNat : Int)) := of_decide_eq_false hs20
              refine AtL.skipped rfl rfl rfl rfl rfl rfl ?_
              refine AtL.skipped rfl rfl rfl rfl rfl rfl ?_
              refine AtL.pickF (.inr ⟨_, _, _, rfl, rfl, rfl, rfl⟩) rfl rfl rfl ?_
              exact J _ (by exact ⟨(boolIs (by clear J; first | (simp [hs20]; done) | (simp_all; done) | grind)), rfl, rfl, trivial⟩)
          · skip
            refine AtL.pickF (.inl rfl) rfl rfl rfl ?_
            exact J _ (by exact ⟨(boolIs (by clear J; first | (simp [hs17]; done) | (simp_all; done) | grind)), rfl, trivial⟩)
      · skip
        refine AtL.done ?_
        refine At.cond rfl ?_ ?_
        · intro hc1
          have hc1 : (((48 ≤ (c.toNat : Int)) ∧ ((c.toNat : Int) ≤ 57)) ∨ ((65 ≤ (c.toNat : Int)) ∧ ((c.toNat : Int) ≤ 90))) ∨ ((97 ≤ (c.toNat : Int)) ∧ ((c.toNat : Int) ≤ 122)) := of_decide_eq_true hc1
          refine At.seq ?_
          refine At.region ?_
          refine AtL.assign (.inl rfl) rfl rfl ?_
          refine AtL.done ?_
          exact At.ret Tryz.func157 rfl rfl (⟨congrArg Value.bool (by rw [letterF]; exact (decide_eq_true (by omega)).symm), rfl⟩)
        · intro hc1
          have hc1 : ¬ ((((48 ≤ (c.toNat : Int)) ∧ ((c.toNat : Int) ≤ 57)) ∨ ((65 ≤ (c.toNat : Int)) ∧ ((c.toNat : Int) ≤ 90))) ∨ ((97 ≤ (c.toNat : Int)) ∧ ((c.toNat : Int) ≤ 122))) := of_decide_eq_false hc1
          refine At.skip ?_
          refine At.seq ?_
          refine At.region ?_
          refine AtL.move (.inl rfl) rfl rfl ?_
          refine AtL.eqi (.inl rfl) rfl rfl rfl ?_
          refine AtL.move (.inl rfl) rfl rfl ?_
          refine AtL.join 7 (E' := [(34, .bool (decide (((c.toNat : Int) = 33) ∨ ((35 ≤ (c.toNat : Int)) ∧ ((c.toNat : Int) ≤ 39))))), (0, .int .u8 (c.toNat : Int))]) (H' := H) (fun J => ?_) ?_
          · refine AtL.split (t := 27) rfl ?_ ?_
            · intro hs27
              have hs27 : (c.toNat : Int) = 33 := of_decide_eq_true hs27
              refine AtL.skipped rfl rfl rfl rfl rfl rfl ?_
              refine AtL.skipped rfl rfl rfl rfl rfl rfl ?_
              refine AtL.skipped rfl rfl rfl rfl rfl rfl ?_
              refine AtL.skippedU rfl rfl rfl rfl rfl ?_
              refine AtL.skippedU rfl rfl rfl rfl rfl ?_
              refine AtL.skipped rfl rfl rfl rfl rfl rfl ?_
              refine AtL.pickT (.inl rfl) rfl rfl rfl ?_
              exact J _ (by exact ⟨(boolIs (by clear J; first | (simp [hs27]; done) | (simp_all; done) | grind)), rfl, trivial⟩)
            · intro hs27
              have hs27 : ¬ ((c.toNat : Int) = 33) := of_decide_eq_false hs27
              refine AtL.move (.inr ⟨_, _, _, rfl, rfl, rfl, rfl⟩) rfl rfl ?_
              refine AtL.geq (.inr ⟨_, _, _, rfl, rfl, rfl, rfl⟩) rfl rfl rfl ?_
              refine AtL.move (.inr ⟨_, _, _, rfl, rfl, rfl, rfl⟩) rfl rfl ?_
              refine AtL.join 3 (E' := [(33, .bool (decide ((35 ≤ (c.toNat : Int)) ∧ ((c.toNat : Int) ≤ 39)))), (0, .int .u8 (c.toNat : Int)), (27, .bool false)]) (H' := H) (fun J => ?_) ?_
              · refine AtL.split (t := 30) rfl ?_ ?_
                · intro hs30
                  have hs30 : 35 ≤ (c.toNat : Int) := of_decide_eq_true hs30
                  refine AtL.move (.inr ⟨_, _, _, rfl, rfl, rfl, rfl⟩) rfl rfl ?_
                  refine AtL.leq (.inr ⟨_, _, _, rfl, rfl, rfl, rfl⟩) rfl rfl rfl ?_
                  refine AtL.pickT (.inr ⟨_, _, _, rfl, rfl, rfl, rfl⟩) rfl rfl rfl ?_
                  exact J _ (by exact ⟨(boolIs (by clear J; first | (simp [hs30]; done) | (simp_all; done) | grind)), rfl, rfl, trivial⟩)
                · intro hs30
                  have hs30 : ¬ (35 ≤ (c.toNat : Int)) := of_decide_eq_false hs30
                  refine AtL.skipped rfl rfl rfl rfl rfl rfl ?_
                  refine AtL.skipped rfl rfl rfl rfl rfl rfl ?_
                  refine AtL.pickF (.inr ⟨_, _, _, rfl, rfl, rfl, rfl⟩) rfl rfl rfl ?_
                  exact J _ (by exact ⟨(boolIs (by clear J; first | (simp [hs30]; done) | (simp_all; done) | grind)), rfl, rfl, trivial⟩)
              · skip
                refine AtL.pickF (.inl rfl) rfl rfl rfl ?_
                exact J _ (by exact ⟨(boolIs (by clear J; first | (simp [hs27]; done) | (simp_all; done) | grind)), rfl, trivial⟩)
          · skip
            refine AtL.move (.inl rfl) rfl rfl ?_
            refine AtL.join 3 (E' := [(38, .bool (decide ((((c.toNat : Int) = 33) ∨ ((35 ≤ (c.toNat : Int)) ∧ ((c.toNat : Int) ≤ 39))) ∨ ((c.toNat : Int) = 42)))), (0, .int .u8 (c.toNat : Int))]) (H' := H) (fun J => ?_) ?_
            · refine AtL.split (t := 35) rfl ?_ ?_
              · intro hs35
                have hs35 : ((c.toNat : Int) = 33) ∨ ((35 ≤ (c.toNat : Int)) ∧ ((c.toNat : Int) ≤ 39)) := of_decide_eq_true hs35
                refine AtL.skipped rfl rfl rfl rfl rfl rfl ?_
                refine AtL.skipped rfl rfl rfl rfl rfl rfl ?_
                refine AtL.pickT (.inl rfl) rfl rfl rfl ?_
                exact J _ (by exact ⟨(boolIs (by clear J; first | (simp [hs35]; done) | (simp_all; done) | grind)), rfl, trivial⟩)
              · intro hs35
                have hs35 : ¬ (((c.toNat : Int) = 33) ∨ ((35 ≤ (c.toNat : Int)) ∧ ((c.toNat : Int) ≤ 39))) := of_decide_eq_false hs35
                refine AtL.move (.inr ⟨_, _, _, rfl, rfl, rfl, rfl⟩) rfl rfl ?_
                refine AtL.eqi (.inr ⟨_, _, _, rfl, rfl, rfl, rfl⟩) rfl rfl rfl ?_
                refine AtL.pickF (.inl rfl) rfl rfl rfl ?_
                exact J _ (by exact ⟨(boolIs (by clear J; first | (simp [hs35]; done) | (simp_all; done) | grind)), rfl, trivial⟩)
            · skip
              refine AtL.move (.inl rfl) rfl rfl ?_
              refine AtL.join 3 (E' := [(42, .bool (decide (((((c.toNat : Int) = 33) ∨ ((35 ≤ (c.toNat : Int)) ∧ ((c.toNat : Int) ≤ 39))) ∨ ((c.toNat : Int) = 42)) ∨ ((c.toNat : Int) = 43)))), (0, .int .u8 (c.toNat : Int))]) (H' := H) (fun J => ?_) ?_
              · refine AtL.split (t := 39) rfl ?_ ?_
                · intro hs39
                  have hs39 : (((c.toNat : Int) = 33) ∨ ((35 ≤ (c.toNat : Int)) ∧ ((c.toNat : Int) ≤ 39))) ∨ ((c.toNat : Int) = 42) := of_decide_eq_true hs39
                  refine AtL.skipped rfl rfl rfl rfl rfl rfl ?_
                  refine AtL.skipped rfl rfl rfl rfl rfl rfl ?_
                  refine AtL.pickT (.inl rfl) rfl rfl rfl ?_
                  exact J _ (by exact ⟨(boolIs (by clear J; first | (simp [hs39]; done) | (simp_all; done) | grind)), rfl, trivial⟩)
                · intro hs39
                  have hs39 : ¬ ((((c.toNat : Int) = 33) ∨ ((35 ≤ (c.toNat : Int)) ∧ ((c.toNat : Int) ≤ 39))) ∨ ((c.toNat : Int) = 42)) := of_decide_eq_false hs39
                  refine AtL.move (.inr ⟨_, _, _, rfl, rfl, rfl, rfl⟩) rfl rfl ?_
                  refine AtL.eqi (.inr ⟨_, _, _, rfl, rfl, rfl, rfl⟩) rfl rfl rfl ?_
                  refine AtL.pickF (.inl rfl) rfl rfl rfl ?_
                  exact J _ (by exact ⟨(boolIs (by clear J; first | (simp [hs39]; done) | (simp_all; done) | grind)), rfl, trivial⟩)
              · skip
                refine AtL.move (.inl rfl) rfl rfl ?_
                refine AtL.join 3 (E' := [(46, .bool (decide ((((((c.toNat : Int) = 33) ∨ ((35 ≤ (c.toNat : Int)) ∧ ((c.toNat : Int) ≤ 39))) ∨ ((c.toNat : Int) = 42)) ∨ ((c.toNat : Int) = 43)) ∨ ((c.toNat : Int) = 45)))), (0, .int .u8 (c.toNat : Int))]) (H' := H) (fun J => ?_) ?_
                · refine AtL.split (t := 43) rfl ?_ ?_
                  · intro hs43
                    have hs43 : ((((c.toNat : Int) = 33) ∨ ((35 ≤ (c.toNat : Int)) ∧ ((c.toNat : Int) ≤ 39))) ∨ ((c.toNat : Int) = 42)) ∨ ((c.toNat : Int) = 43) := of_decide_eq_true hs43
                    refine AtL.skipped rfl rfl rfl rfl rfl rfl ?_
                    refine AtL.skipped rfl rfl rfl rfl rfl rfl ?_
                    refine AtL.pickT (.inl rfl) rfl rfl rfl ?_
                    exact J _ (by exact ⟨(boolIs (by clear J; first | (simp [hs43]; done) | (simp_all; done) | grind)), rfl, trivial⟩)
                  · intro hs43
                    have hs43 : ¬ (((((c.toNat : Int) = 33) ∨ ((35 ≤ (c.toNat : Int)) ∧ ((c.toNat : Int) ≤ 39))) ∨ ((c.toNat : Int) = 42)) ∨ ((c.toNat : Int) = 43)) := of_decide_eq_false hs43
                    refine AtL.move (.inr ⟨_, _, _, rfl, rfl, rfl, rfl⟩) rfl rfl ?_
                    refine AtL.eqi (.inr ⟨_, _, _, rfl, rfl, rfl, rfl⟩) rfl rfl rfl ?_
                    refine AtL.pickF (.inl rfl) rfl rfl rfl ?_
                    exact J _ (by exact ⟨(boolIs (by clear J; first | (simp [hs43]; done) | (simp_all; done) | grind)), rfl, trivial⟩)
                · skip
                  refine AtL.move (.inl rfl) rfl rfl ?_
                  refine AtL.join 3 (E' := [(50, .bool (decide (((((((c.toNat : Int) = 33) ∨ ((35 ≤ (c.toNat : Int)) ∧ ((c.toNat : Int) ≤ 39))) ∨ ((c.toNat : Int) = 42)) ∨ ((c.toNat : Int) = 43)) ∨ ((c.toNat : Int) = 45)) ∨ ((c.toNat : Int) = 46)))), (0, .int .u8 (c.toNat : Int))]) (H' := H) (fun J => ?_) ?_
                  · refine AtL.split (t := 47) rfl ?_ ?_
                    · intro hs47
                      have hs47 : (((((c.toNat : Int) = 33) ∨ ((35 ≤ (c.toNat : Int)) ∧ ((c.toNat : Int) ≤ 39))) ∨ ((c.toNat : Int) = 42)) ∨ ((c.toNat : Int) = 43)) ∨ ((c.toNat : Int) = 45) := of_decide_eq_true hs47
                      refine AtL.skipped rfl rfl rfl rfl rfl rfl ?_
                      refine AtL.skipped rfl rfl rfl rfl rfl rfl ?_
                      refine AtL.pickT (.inl rfl) rfl rfl rfl ?_
                      exact J _ (by exact ⟨(boolIs (by clear J; first | (simp [hs47]; done) | (simp_all; done) | grind)), rfl, trivial⟩)
                    · intro hs47
                      have hs47 : ¬ ((((((c.toNat : Int) = 33) ∨ ((35 ≤ (c.toNat : Int)) ∧ ((c.toNat : Int) ≤ 39))) ∨ ((c.toNat : Int) = 42)) ∨ ((c.toNat : Int) = 43)) ∨ ((c.toNat : Int) = 45)) := of_decide_eq_false hs47
                      refine AtL.move (.inr ⟨_, _, _, rfl, rfl, rfl, rfl⟩) rfl rfl ?_
                      refine AtL.eqi (.inr ⟨_, _, _, rfl, rfl, rfl, rfl⟩) rfl rfl rfl ?_
                      refine AtL.pickF (.inl rfl) rfl rfl rfl ?_
                      exact J _ (by exact ⟨(boolIs (by clear J; first | (simp [hs47]; done) | (simp_all; done) | grind)), rfl, trivial⟩)
                  · skip
                    refine AtL.move (.inl rfl) rfl rfl ?_
                    refine AtL.join 7 (E' := [(58, .bool (decide ((((((((c.toNat : Int) = 33) ∨ ((35 ≤ (c.toNat : Int)) ∧ ((c.toNat : Int) ≤ 39))) ∨ ((c.toNat : Int) = 42)) ∨ ((c.toNat : Int) = 43)) ∨ ((c.toNat : Int) = 45)) ∨ ((c.toNat : Int) = 46)) ∨ ((94 ≤ (c.toNat : Int)) ∧ ((c.toNat : Int) ≤ 96))))), (0, .int .u8 (c.toNat : Int))]) (H' := H) (fun J => ?_) ?_
                    · refine AtL.split (t := 51) rfl ?_ ?_
                      · intro hs51
                        have hs51 : ((((((c.toNat : Int) = 33) ∨ ((35 ≤ (c.toNat : Int)) ∧ ((c.toNat : Int) ≤ 39))) ∨ ((c.toNat : Int) = 42)) ∨ ((c.toNat : Int) = 43)) ∨ ((c.toNat : Int) = 45)) ∨ ((c.toNat : Int) = 46) := of_decide_eq_true hs51
                        refine AtL.skipped rfl rfl rfl rfl rfl rfl ?_
                        refine AtL.skipped rfl rfl rfl rfl rfl rfl ?_
                        refine AtL.skipped rfl rfl rfl rfl rfl rfl ?_
                        refine AtL.skippedU rfl rfl rfl rfl rfl ?_
                        refine AtL.skippedU rfl rfl rfl rfl rfl ?_
                        refine AtL.skipped rfl rfl rfl rfl rfl rfl ?_
                        refine AtL.pickT (.inl rfl) rfl rfl rfl ?_
                        exact J _ (by exact ⟨(boolIs (by clear J; first | (simp [hs51]; done) | (simp_all; done) | grind)), rfl, trivial⟩)
                      · intro hs51
                        have hs51 : ¬ (((((((c.toNat : Int) = 33) ∨ ((35 ≤ (c.toNat : Int)) ∧ ((c.toNat : Int) ≤ 39))) ∨ ((c.toNat : Int) = 42)) ∨ ((c.toNat : Int) = 43)) ∨ ((c.toNat : Int) = 45)) ∨ ((c.toNat : Int) = 46)) := of_decide_eq_false hs51
                        refine AtL.move (.inr ⟨_, _, _, rfl, rfl, rfl, rfl⟩) rfl rfl ?_
                        refine AtL.geq (.inr ⟨_, _, _, rfl, rfl, rfl, rfl⟩) rfl rfl rfl ?_
                        refine AtL.move (.inr ⟨_, _, _, rfl, rfl, rfl, rfl⟩) rfl rfl ?_
                        refine AtL.join 3 (E' := [(57, .bool (decide ((94 ≤ (c.toNat : Int)) ∧ ((c.toNat : Int) ≤ 96)))), (0, .int .u8 (c.toNat : Int)), (51, .bool false)]) (H' := H) (fun J => ?_) ?_
                        · refine AtL.split (t := 54) rfl ?_ ?_
                          · intro hs54
                            have hs54 : 94 ≤ (c.toNat : Int) := of_decide_eq_true hs54
                            refine AtL.move (.inr ⟨_, _, _, rfl, rfl, rfl, rfl⟩) rfl rfl ?_
                            refine AtL.leq (.inr ⟨_, _, _, rfl, rfl, rfl, rfl⟩) rfl rfl rfl ?_
                            refine AtL.pickT (.inr ⟨_, _, _, rfl, rfl, rfl, rfl⟩) rfl rfl rfl ?_
                            exact J _ (by exact ⟨(boolIs (by clear J; first | (simp [hs54]; done) | (simp_all; done) | grind)), rfl, rfl, trivial⟩)
                          · intro hs54
                            have hs54 : ¬ (94 ≤ (c.toNat : Int)) := of_decide_eq_false hs54
                            refine AtL.skipped rfl rfl rfl rfl rfl rfl ?_
                            refine AtL.skipped rfl rfl rfl rfl rfl rfl ?_
                            refine AtL.pickF (.inr ⟨_, _, _, rfl, rfl, rfl, rfl⟩) rfl rfl rfl ?_
                            exact J _ (by exact ⟨(boolIs (by clear J; first | (simp [hs54]; done) | (simp_all; done) | grind)), rfl, rfl, trivial⟩)
                        · skip
                          refine AtL.pickF (.inl rfl) rfl rfl rfl ?_
                          exact J _ (by exact ⟨(boolIs (by clear J; first | (simp [hs51]; done) | (simp_all; done) | grind)), rfl, trivial⟩)
                    · skip
                      refine AtL.move (.inl rfl) rfl rfl ?_
                      refine AtL.join 3 (E' := [(62, .bool (decide (((((((((c.toNat : Int) = 33) ∨ ((35 ≤ (c.toNat : Int)) ∧ ((c.toNat : Int) ≤ 39))) ∨ ((c.toNat : Int) = 42)) ∨ ((c.toNat : Int) = 43)) ∨ ((c.toNat : Int) = 45)) ∨ ((c.toNat : Int) = 46)) ∨ ((94 ≤ (c.toNat : Int)) ∧ ((c.toNat : Int) ≤ 96))) ∨ ((c.toNat : Int) = 124)))), (0, .int .u8 (c.toNat : Int))]) (H' := H) (fun J => ?_) ?_
                      · refine AtL.split (t := 59) rfl ?_ ?_
                        · intro hs59
                          have hs59 : (((((((c.toNat : Int) = 33) ∨ ((35 ≤ (c.toNat : Int)) ∧ ((c.toNat : Int) ≤ 39))) ∨ ((c.toNat : Int) = 42)) ∨ ((c.toNat : Int) = 43)) ∨ ((c.toNat : Int) = 45)) ∨ ((c.toNat : Int) = 46)) ∨ ((94 ≤ (c.toNat : Int)) ∧ ((c.toNat : Int) ≤ 96)) := of_decide_eq_true hs59
                          refine AtL.skipped rfl rfl rfl rfl rfl rfl ?_
                          refine AtL.skipped rfl rfl rfl rfl rfl rfl ?_
                          refine AtL.pickT (.inl rfl) rfl rfl rfl ?_
                          exact J _ (by exact ⟨(boolIs (by clear J; first | (simp [hs59]; done) | (simp_all; done) | grind)), rfl, trivial⟩)
                        · intro hs59
                          have hs59 : ¬ ((((((((c.toNat : Int) = 33) ∨ ((35 ≤ (c.toNat : Int)) ∧ ((c.toNat : Int) ≤ 39))) ∨ ((c.toNat : Int) = 42)) ∨ ((c.toNat : Int) = 43)) ∨ ((c.toNat : Int) = 45)) ∨ ((c.toNat : Int) = 46)) ∨ ((94 ≤ (c.toNat : Int)) ∧ ((c.toNat : Int) ≤ 96))) := of_decide_eq_false hs59
                          refine AtL.move (.inr ⟨_, _, _, rfl, rfl, rfl, rfl⟩) rfl rfl ?_
                          refine AtL.eqi (.inr ⟨_, _, _, rfl, rfl, rfl, rfl⟩) rfl rfl rfl ?_
                          refine AtL.pickF (.inl rfl) rfl rfl rfl ?_
                          exact J _ (by exact ⟨(boolIs (by clear J; first | (simp [hs59]; done) | (simp_all; done) | grind)), rfl, trivial⟩)
                      · skip
                        refine AtL.move (.inl rfl) rfl rfl ?_
                        refine AtL.join 3 (E' := [(66, .bool (decide ((((((((((c.toNat : Int) = 33) ∨ ((35 ≤ (c.toNat : Int)) ∧ ((c.toNat : Int) ≤ 39))) ∨ ((c.toNat : Int) = 42)) ∨ ((c.toNat : Int) = 43)) ∨ ((c.toNat : Int) = 45)) ∨ ((c.toNat : Int) = 46)) ∨ ((94 ≤ (c.toNat : Int)) ∧ ((c.toNat : Int) ≤ 96))) ∨ ((c.toNat : Int) = 124)) ∨ ((c.toNat : Int) = 126))))]) (H' := H) (fun J => ?_) ?_
                        · refine AtL.split (t := 63) rfl ?_ ?_
                          · intro hs63
                            have hs63 : ((((((((c.toNat : Int) = 33) ∨ ((35 ≤ (c.toNat : Int)) ∧ ((c.toNat : Int) ≤ 39))) ∨ ((c.toNat : Int) = 42)) ∨ ((c.toNat : Int) = 43)) ∨ ((c.toNat : Int) = 45)) ∨ ((c.toNat : Int) = 46)) ∨ ((94 ≤ (c.toNat : Int)) ∧ ((c.toNat : Int) ≤ 96))) ∨ ((c.toNat : Int) = 124) := of_decide_eq_true hs63
                            refine AtL.skipped rfl rfl rfl rfl rfl rfl ?_
                            refine AtL.skipped rfl rfl rfl rfl rfl rfl ?_
                            refine AtL.pickT (.inl rfl) rfl rfl rfl ?_
                            exact J _ (by exact ⟨(boolIs (by clear J; first | (simp [hs63]; done) | (simp_all; done) | grind)), trivial⟩)
                          · intro hs63
                            have hs63 : ¬ (((((((((c.toNat : Int) = 33) ∨ ((35 ≤ (c.toNat : Int)) ∧ ((c.toNat : Int) ≤ 39))) ∨ ((c.toNat : Int) = 42)) ∨ ((c.toNat : Int) = 43)) ∨ ((c.toNat : Int) = 45)) ∨ ((c.toNat : Int) = 46)) ∨ ((94 ≤ (c.toNat : Int)) ∧ ((c.toNat : Int) ≤ 96))) ∨ ((c.toNat : Int) = 124)) := of_decide_eq_false hs63
                            refine AtL.move (.inr ⟨_, _, _, rfl, rfl, rfl, rfl⟩) rfl rfl ?_
                            refine AtL.eqi (.inr ⟨_, _, _, rfl, rfl, rfl, rfl⟩) rfl rfl rfl ?_
                            refine AtL.pickF (.inl rfl) rfl rfl rfl ?_
                            exact J _ (by exact ⟨(boolIs (by clear J; first | (simp [hs63]; done) | (simp_all; done) | grind)), trivial⟩)
                        · skip
                          refine AtL.assign (.inl rfl) rfl rfl ?_
                          refine AtL.done ?_
                          exact At.ret Tryz.func157 rfl rfl (⟨congrArg Value.bool (by rw [letterF]; exact decide_eq_decide.2 (by omega)), rfl⟩)

set_option maxHeartbeats 400000 in
theorem rword_ok {w0 : World} {base : Nat} {H : List Seg} {l : List UInt8} (hl : l.length ≤ 140737488355000) (most : Int) :
    SCalls Tryz.prog 109 [str l, .int .i64 most] w0 base (H) (fun v H' => v = .bool (wordF l most) ∧ H' = H) := by
  refine SCalls.of_walk (n := 26) Tryz.func109 rfl rfl rfl fun cs => ?_
  refine At.seq ?_
  refine At.region ?_
  refine AtL.assign (.inl rfl) rfl rfl ?_
  refine AtL.done ?_
  refine At.seq ?_
  refine At.seq ?_
  refine At.region ?_
  refine AtL.move (.inl rfl) rfl rfl ?_
  refine AtL.lenS (l := l) Tryz.underlying9 (.inl rfl) rfl rfl ?_
  refine AtL.lss (.inl rfl) rfl rfl rfl ?_
  refine AtL.move (.inl rfl) rfl rfl ?_
  refine AtL.join 5 (E' := [(14, .bool (decide (((l.length : Int) < 1) ∨ (most < (l.length : Int))))), (0, str l)]) (H' := H) (fun J => ?_) ?_
  · refine AtL.split (t := 9) rfl ?_ ?_
    · intro hs9
      have hs9 : (l.length : Int) < 1 := of_decide_eq_true hs9
      refine AtL.skipped rfl rfl rfl rfl rfl rfl ?_
      refine AtL.skipped rfl rfl rfl rfl rfl rfl ?_
      refine AtL.skipped rfl rfl rfl rfl rfl rfl ?_
      refine AtL.skipped rfl rfl rfl rfl rfl rfl ?_
      refine AtL.pickT (.inl rfl) rfl rfl rfl ?_
      exact J _ (by exact ⟨(boolIs (by clear J; first | (simp [hs9]; done) | (simp_all; done) | grind)), rfl, trivial⟩)
    · intro hs9
      have hs9 : ¬ ((l.length : Int) < 1) := of_decide_eq_false hs9
      refine AtL.move (.inr ⟨_, _, _, rfl, rfl, rfl, rfl⟩) rfl rfl ?_
      refine AtL.lenS (l := l) Tryz.underlying9 (.inr ⟨_, _, _, rfl, rfl, rfl, rfl⟩) rfl rfl ?_
      refine AtL.move (.inr ⟨_, _, _, rfl, rfl, rfl, rfl⟩) rfl rfl ?_
      refine AtL.gtr (.inr ⟨_, _, _, rfl, rfl, rfl, rfl⟩) rfl rfl rfl ?_
      refine AtL.pickF (.inl rfl) rfl rfl rfl ?_
      exact J _ (by exact ⟨(boolIs (by clear J; first | (simp [hs9]; done) | (simp_all; done) | grind)), rfl, trivial⟩)
  · skip
    refine AtL.done ?_
    refine At.cond rfl ?_ ?_
    · intro hc1
      have hc1 : ((l.length : Int) < 1) ∨ (most < (l.length : Int)) := of_decide_eq_true hc1
      refine At.seq ?_
      refine At.region ?_
      refine AtL.assign (.inl rfl) rfl rfl ?_
      refine AtL.done ?_
      exact At.ret Tryz.func109 rfl rfl (⟨congrArg Value.bool (by rw [wordF, decide_eq_false (by omega)]; rfl), rfl⟩)
    · intro hc1
      have hc1 : ¬ (((l.length : Int) < 1) ∨ (most < (l.length : Int))) := of_decide_eq_false hc1
      refine At.skip ?_
      refine At.seq ?_
      refine At.seq ?_
      refine At.region ?_
      refine AtL.assign (.inl rfl) rfl rfl ?_
      refine AtL.done ?_
      refine At.block ?_
      refine At.loop (fun (k : Nat) => [(0, str l), (5, .int .i64 (k : Int))]) (fun (k : Nat) => H) (fun (k : Nat) => k ≤ l.length ∧ (l.take k).all letterF = true) (fun (k : Nat) => l.length - k) 0 (⟨Nat.zero_le _, rfl⟩) ⟨rfl, rfl, trivial⟩ rfl ?_
      rintro k ⟨hk, ha⟩ ihL1
      refine At.seq ?_
      refine At.seq ?_
      refine At.region ?_
      refine AtL.move (.inl rfl) rfl rfl ?_
      refine AtL.move (.inl rfl) rfl rfl ?_
      refine AtL.lenS (l := l) Tryz.underlying9 (.inl rfl) rfl rfl ?_
      refine AtL.lss (.inl rfl) rfl rfl rfl ?_
      refine AtL.done ?_
      refine At.cond rfl ?_ ?_
      · intro hc2
        have hc2 : (k : Int) < (l.length : Int) := of_decide_eq_true hc2
        refine At.skip ?_
        refine At.seq ?_
        refine At.block ?_
        refine At.seq ?_
        refine At.region ?_
        refine AtL.move (.inl rfl) rfl rfl ?_
        refine AtL.move (.inl rfl) rfl rfl ?_
        refine AtL.indexS (l := l) k rfl (by omega) Tryz.underlying9 (.inl rfl) rfl rfl rfl ?_
        refine AtL.call tf_body157 (.inl rfl) rfl rfl (rletter_ok (l.getD k 0)) ?_
        rintro _ _ ⟨rfl, hHq⟩
        obtain rfl := hHq.symm
        refine AtL.not (.inl rfl) rfl rfl ?_
        refine AtL.done ?_
        refine At.cond rfl ?_ ?_
        · intro hc3
          have hc3 : (letterF (l.getD k 0)) = false := bnot_true hc3
          refine At.seq ?_
          refine At.region ?_
          refine AtL.assign (.inl rfl) rfl rfl ?_
          refine AtL.done ?_
          exact At.ret Tryz.func109 rfl rfl (⟨congrArg Value.bool (by rw [wordF, all_bad (k := k) (by omega) (by simpa using hc3), Bool.and_false]), rfl⟩)
        · intro hc3
          have hc3 : (letterF (l.getD k 0)) = true := bnot_false hc3
          refine At.skip ?_
          refine At.inBlock ?_
          refine At.region ?_
          refine AtL.move (.inl rfl) rfl rfl ?_
          refine AtL.add (z := (k : Int) + 1) (.inl rfl) rfl rfl rfl (w64 (by omega) (by omega)) ?_
          refine AtL.assign (.inl rfl) rfl rfl ?_
          refine AtL.done ?_
          refine ihL1 (k + 1) (⟨by omega, all_step (by omega) ha (by simpa using hc3)⟩) (by omega) _ ?_
          exact ⟨rfl, (by first | rfl | exact slLen (by simp []) | exact intEq (by omega) | exact intEq (by simp []) | exact slLen (by simp []; omega)), trivial⟩
      · intro hc2
        have hc2 : ¬ ((k : Int) < (l.length : Int)) := of_decide_eq_false hc2
        refine At.exit rfl ?_
        refine At.seq ?_
        refine At.region ?_
        refine AtL.assign (.inl rfl) rfl rfl ?_
        refine AtL.done ?_
        exact At.ret Tryz.func109 rfl rfl (⟨congrArg Value.bool (by rw [wordF, all_end (by omega) ha, decide_eq_true (by omega)]; rfl), rfl⟩)

theorem blankF_is (c : UInt8) : blankF c = decide ((c.toNat : Int) = 9 ∨ (c.toNat : Int) = 32) := by
  have h9 := u8_eq (c := c) (n := 9) (by omega)
  have h32 := u8_eq (c := c) (n := 32) (by omega)
  rw [blankF, Bool.eq_iff_iff]
  simp only [Bool.or_eq_true, decide_eq_true_eq]
  exact or_congr h9.symm h32.symm
theorem tl_step {l : List UInt8} (h : l ≠ []) (hb : blankF (l.getD 0 0) = true) : tl blankF (subl l 1 l.length) = tl blankF l := by
  cases l with
  | nil => exact absurd rfl h
  | cons a l =>
    have hb : blankF a = true := hb
    simp [tl, subl, hb]
theorem tl_end {l : List UInt8} (h : ¬ (l ≠ [] ∧ blankF (l.getD 0 0) = true)) : tl blankF l = l := by
  cases l with
  | nil => rfl
  | cons a l =>
    have hb : blankF a = false := by
      have := fun hb => h ⟨by simp, hb⟩
      simpa using this
    simp [tl, hb]
theorem tr_step {l : List UInt8} (h : l ≠ []) (hb : blankF (l.getD (l.length - 1) 0) = true) : tr blankF (subl l 0 (l.length - 1)) = tr blankF l := by
  rcases snoc_cases l with rfl | ⟨k, c, rfl⟩
  · exact absurd rfl h
  · have hb : blankF c = true := by simpa [List.getD] using hb
    have e : subl (k ++ [c]) 0 ((k ++ [c]).length - 1) = k := by simp [subl]
    rw [e, tr_snoc, if_pos hb]
theorem tr_end {l : List UInt8} (h : ¬ (l ≠ [] ∧ blankF (l.getD (l.length - 1) 0) = true)) : tr blankF l = l := by
  rcases snoc_cases l with rfl | ⟨k, c, rfl⟩
  · rfl
  · have hb : blankF c = false := by
      have := fun hb => h ⟨by simp, hb⟩
      simpa [List.getD] using this
    rw [tr_snoc, if_neg (by simp [hb])]

set_option maxHeartbeats 400000 in
theorem rblank_ok {w0 : World} {base : Nat} {H : List Seg} (c : UInt8) :
    SCalls Tryz.prog 161 [.int .u8 (c.toNat : Int)] w0 base (H) (fun v H' => v = .bool (blankF c) ∧ H' = H) := by
  refine SCalls.of_walk (n := 9) Tryz.func161 rfl rfl rfl fun cs => ?_
  refine At.seq ?_
  refine At.region ?_
  refine AtL.assign (.inl rfl) rfl rfl ?_
  refine AtL.done ?_
  refine At.seq ?_
  refine At.region ?_
  refine AtL.move (.inl rfl) rfl rfl ?_
  refine AtL.eqi (.inl rfl) rfl rfl rfl ?_
  refine AtL.move (.inl rfl) rfl rfl ?_
  refine AtL.join 3 (E' := [(8, .bool (decide (((c.toNat : Int) = 9) ∨ ((c.toNat : Int) = 32))))]) (H' := H) (fun J => ?_) ?_
  · refine AtL.split (t := 5) rfl ?_ ?_
    · intro hs5
      have hs5 : (c.toNat : Int) = 9 := of_decide_eq_true hs5
      refine AtL.skipped rfl rfl rfl rfl rfl rfl ?_
      refine AtL.skipped rfl rfl rfl rfl rfl rfl ?_
      refine AtL.pickT (.inl rfl) rfl rfl rfl ?_
      exact J _ (by exact ⟨(boolIs (by clear J; first | (simp [hs5]; done) | (simp_all; done) | grind)), trivial⟩)
    · intro hs5
      have hs5 : ¬ ((c.toNat : Int) = 9) := of_decide_eq_false hs5
      refine AtL.move (.inr ⟨_, _, _, rfl, rfl, rfl, rfl⟩) rfl rfl ?_
      refine AtL.eqi (.inr ⟨_, _, _, rfl, rfl, rfl, rfl⟩) rfl rfl rfl ?_
      refine AtL.pickF (.inl rfl) rfl rfl rfl ?_
      exact J _ (by exact ⟨(boolIs (by clear J; first | (simp [hs5]; done) | (simp_all; done) | grind)), trivial⟩)
  · skip
    refine AtL.assign (.inl rfl) rfl rfl ?_
    refine AtL.done ?_
    exact At.ret Tryz.func161 rfl rfl (⟨congrArg Value.bool (blankF_is c).symm, rfl⟩)

set_option maxHeartbeats 400000 in
theorem rtrim_ok {w0 : World} {base : Nat} {H : List Seg} {l : List UInt8} (hl : l.length ≤ 140737488355000) :
    SCalls Tryz.prog 124 [str l] w0 base (H) (fun v H' => v = str (trimF l) ∧ H' = H) := by
  refine SCalls.of_walk (n := 30) Tryz.func124 rfl rfl rfl fun cs => ?_
  refine At.seq ?_
  refine At.region ?_
  refine AtL.assign (.inl rfl) rfl rfl ?_
  refine AtL.done ?_
  refine At.seq ?_
  refine At.block ?_
  refine At.loop (fun (x : List UInt8) => [(0, str x)]) (fun (x : List UInt8) => H) (fun (x : List UInt8) => x.length ≤ l.length ∧ tl blankF l = tl blankF x) (fun (x : List UInt8) => x.length) l (⟨Nat.le_refl _, rfl⟩) ⟨rfl, trivial⟩ rfl ?_
  rintro x ⟨hx, ht⟩ ihL1
  refine At.seq ?_
  refine At.seq ?_
  refine At.region ?_
  refine AtL.move (.inl rfl) rfl rfl ?_
  refine AtL.lenS (l := x) Tryz.underlying9 (.inl rfl) rfl rfl ?_
  refine AtL.gtr (.inl rfl) rfl rfl rfl ?_
  refine AtL.move (.inl rfl) rfl rfl ?_
  refine AtL.join 4 (E' := [(10, .bool (decide ((0 < (x.length : Int)) ∧ ((blankF (x.getD 0 0)) = true)))), (0, str x)]) (H' := H) (fun J => ?_) ?_
  · refine AtL.split (t := 6) rfl ?_ ?_
    · intro hs6
      have hs6 : 0 < (x.length : Int) := of_decide_eq_true hs6
      refine AtL.move (.inr ⟨_, _, _, rfl, rfl, rfl, rfl⟩) rfl rfl ?_
      refine AtL.indexS (l := x) 0 rfl (by omega) Tryz.underlying9 (.inr ⟨_, _, _, rfl, rfl, rfl, rfl⟩) rfl rfl rfl ?_
      refine AtL.call tf_body161 (.inr ⟨_, _, _, rfl, rfl, rfl, rfl⟩) rfl rfl (rblank_ok (x.getD 0 0)) ?_
      rintro _ _ ⟨rfl, hHq⟩
      obtain rfl := hHq.symm
      refine AtL.pickT (.inl rfl) rfl rfl rfl ?_
      exact J _ (by exact ⟨(boolIs (by clear J; first | (simp [hs6]; done) | (simp_all; done) | grind)), rfl, trivial⟩)
    · intro hs6
      have hs6 : ¬ (0 < (x.length : Int)) := of_decide_eq_false hs6
      refine AtL.skipped rfl rfl rfl rfl rfl rfl ?_
      refine AtL.skipped rfl rfl rfl rfl rfl rfl ?_
      refine AtL.skipped rfl rfl rfl rfl rfl rfl ?_
      refine AtL.pickF (.inl rfl) rfl rfl rfl ?_
      exact J _ (by exact ⟨(boolIs (by clear J; first | (simp [hs6]; done) | (simp_all; done) | grind)), rfl, trivial⟩)
  · skip
    refine AtL.done ?_
    refine At.cond rfl ?_ ?_
    · intro hc1
      have hc1 : (0 < (x.length : Int)) ∧ ((blankF (x.getD 0 0)) = true) := of_decide_eq_true hc1
      refine At.skip ?_
      refine At.block ?_
      refine At.region ?_
      refine AtL.move (.inl rfl) rfl rfl ?_
      refine AtL.sliceS (l := x) 1 x.length (evBound_some rfl rfl) rfl (by omega) (by omega) Tryz.underlying9 (.inl rfl) rfl rfl ?_
      refine AtL.assign (.inl rfl) rfl rfl ?_
      refine AtL.done ?_
      refine At.inBlock ?_
      refine ihL1 (subl x 1 x.length) (⟨by rw [subl_len (Nat.le_refl _)]; omega, by rw [ht, tl_step (List.length_pos_iff.1 (by omega)) hc1.2]⟩) (by rw [subl_len (Nat.le_refl _)]; omega) _ ?_
      exact ⟨(by first | rfl | exact slLen (by simp []) | exact intEq (by omega) | exact intEq (by simp []) | exact slLen (by simp []; omega)), trivial⟩
    · intro hc1
      have hc1 : ¬ ((0 < (x.length : Int)) ∧ ((blankF (x.getD 0 0)) = true)) := of_decide_eq_false hc1
      refine At.exit rfl ?_
      refine At.seq ?_
      refine At.block ?_
      have htx : trimF l = tr blankF x := by rw [trimF, ht, tl_end (fun h => hc1 ⟨by have := List.length_pos_iff.2 h.1; omega, h.2⟩)]
      refine At.loop (fun (z : List UInt8) => [(0, str z)]) (fun (z : List UInt8) => H) (fun (z : List UInt8) => z.length ≤ l.length ∧ trimF l = tr blankF z) (fun (z : List UInt8) => z.length) x (⟨hx, htx⟩) ⟨rfl, trivial⟩ rfl ?_
      rintro z ⟨hz, hr⟩ ihL2
      have hzt : ((z.length : Int) - 1).toNat = z.length - 1 := by omega
      refine At.seq ?_
      refine At.seq ?_
      refine At.region ?_
      refine AtL.move (.inl rfl) rfl rfl ?_
      refine AtL.lenS (l := z) Tryz.underlying9 (.inl rfl) rfl rfl ?_
      refine AtL.gtr (.inl rfl) rfl rfl rfl ?_
      refine AtL.move (.inl rfl) rfl rfl ?_
      refine AtL.join 7 (E' := [(23, .bool (decide ((0 < (z.length : Int)) ∧ ((blankF (z.getD (Int.toNat ((z.length : Int) - 1)) 0)) = true)))), (0, str z)]) (H' := H) (fun J => ?_) ?_
      · refine AtL.split (t := 16) rfl ?_ ?_
        · intro hs16
          have hs16 : 0 < (z.length : Int) := of_decide_eq_true hs16
          refine AtL.move (.inr ⟨_, _, _, rfl, rfl, rfl, rfl⟩) rfl rfl ?_
          refine AtL.move (.inr ⟨_, _, _, rfl, rfl, rfl, rfl⟩) rfl rfl ?_
          refine AtL.lenS (l := z) Tryz.underlying9 (.inr ⟨_, _, _, rfl, rfl, rfl, rfl⟩) rfl rfl ?_
          refine AtL.sub (z := (z.length : Int) - 1) (.inr ⟨_, _, _, rfl, rfl, rfl, rfl⟩) rfl rfl rfl (w64 (by omega) (by omega)) ?_
          refine AtL.indexS (l := z) (Int.toNat ((z.length : Int) - 1)) (by omega) (by omega) Tryz.underlying9 (.inr ⟨_, _, _, rfl, rfl, rfl, rfl⟩) rfl rfl rfl ?_
          refine AtL.call tf_body161 (.inr ⟨_, _, _, rfl, rfl, rfl, rfl⟩) rfl rfl (rblank_ok (z.getD (Int.toNat ((z.length : Int) - 1)) 0)) ?_
          rintro _ _ ⟨rfl, hHq⟩
          obtain rfl := hHq.symm
          refine AtL.pickT (.inl rfl) rfl rfl rfl ?_
          exact J _ (by exact ⟨(boolIs (by clear J; first | (simp [hs16]; done) | (simp_all; done) | grind)), rfl, trivial⟩)
        · intro hs16
          have hs16 : ¬ (0 < (z.length : Int)) := of_decide_eq_false hs16
          refine AtL.skipped rfl rfl rfl rfl rfl rfl ?_
          refine AtL.skipped rfl rfl rfl rfl rfl rfl ?_
          refine AtL.skipped rfl rfl rfl rfl rfl rfl ?_
          refine AtL.skipped rfl rfl rfl rfl rfl rfl ?_
          refine AtL.skipped rfl rfl rfl rfl rfl rfl ?_
          refine AtL.skipped rfl rfl rfl rfl rfl rfl ?_
          refine AtL.pickF (.inl rfl) rfl rfl rfl ?_
          exact J _ (by exact ⟨(boolIs (by clear J; first | (simp [hs16]; done) | (simp_all; done) | grind)), rfl, trivial⟩)
      · skip
        refine AtL.done ?_
        refine At.cond rfl ?_ ?_
        · intro hc2
          have hc2 : (0 < (z.length : Int)) ∧ ((blankF (z.getD (Int.toNat ((z.length : Int) - 1)) 0)) = true) := of_decide_eq_true hc2
          rw [hzt] at hc2
          refine At.skip ?_
          refine At.block ?_
          refine At.region ?_
          refine AtL.move (.inl rfl) rfl rfl ?_
          refine AtL.move (.inl rfl) rfl rfl ?_
          refine AtL.lenS (l := z) Tryz.underlying9 (.inl rfl) rfl rfl ?_
          refine AtL.sub (z := (z.length : Int) - 1) (.inl rfl) rfl rfl rfl (w64 (by omega) (by omega)) ?_
          refine AtL.sliceS (l := z) 0 (Int.toNat ((z.length : Int) - 1)) rfl (evBound_some rfl (by omega)) (by omega) (by omega) Tryz.underlying9 (.inl rfl) rfl rfl ?_
          refine AtL.assign (.inl rfl) rfl rfl ?_
          refine AtL.done ?_
          refine At.inBlock ?_
          refine ihL2 (subl z 0 (Int.toNat ((z.length : Int) - 1))) (⟨by rw [hzt, subl_len (by omega)]; omega, by rw [hr, hzt, tr_step (List.length_pos_iff.1 (by omega)) hc2.2]⟩) (by rw [hzt, subl_len (by omega)]; omega) _ ?_
          exact ⟨(by first | rfl | exact slLen (by simp []) | exact intEq (by omega) | exact intEq (by simp []) | exact slLen (by simp []; omega)), trivial⟩
        · intro hc2
          have hc2 : ¬ ((0 < (z.length : Int)) ∧ ((blankF (z.getD (Int.toNat ((z.length : Int) - 1)) 0)) = true)) := of_decide_eq_false hc2
          rw [hzt] at hc2
          refine At.exit rfl ?_
          refine At.seq ?_
          refine At.region ?_
          refine AtL.move (.inl rfl) rfl rfl ?_
          refine AtL.assign (.inl rfl) rfl rfl ?_
          refine AtL.done ?_
          exact At.ret Tryz.func124 rfl rfl (⟨congrArg str (by rw [hr, tr_end (fun h => hc2 ⟨by have := List.length_pos_iff.2 h.1; omega, h.2⟩)]), rfl⟩)

set_option maxHeartbeats 400000 in
theorem rvalue_ok {w0 : World} {base : Nat} {H : List Seg} {l : List UInt8} (hl : l.length ≤ 140737488355000) :
    SCalls Tryz.prog 110 [str l] w0 base (H) (fun v H' => v = .bool (valueF l) ∧ H' = H) := by
  refine SCalls.of_walk (n := 30) Tryz.func110 rfl rfl rfl fun cs => ?_
  refine At.seq ?_
  refine At.region ?_
  refine AtL.assign (.inl rfl) rfl rfl ?_
  refine AtL.done ?_
  refine At.seq ?_
  refine At.seq ?_
  refine At.region ?_
  refine AtL.assign (.inl rfl) rfl rfl ?_
  refine AtL.done ?_
  refine At.block ?_
  refine At.loop (fun (k : Nat) => [(0, str l), (3, .int .i64 (k : Int))]) (fun (k : Nat) => H) (fun (k : Nat) => k ≤ l.length ∧ (l.take k).all valCh = true) (fun (k : Nat) => l.length - k) 0 (⟨Nat.zero_le _, rfl⟩) ⟨rfl, rfl, trivial⟩ rfl ?_
  rintro k ⟨hk, ha⟩ ihL1
  refine At.seq ?_
  refine At.seq ?_
  refine At.region ?_
  refine AtL.move (.inl rfl) rfl rfl ?_
  refine AtL.move (.inl rfl) rfl rfl ?_
  refine AtL.lenS (l := l) Tryz.underlying9 (.inl rfl) rfl rfl ?_
  refine AtL.lss (.inl rfl) rfl rfl rfl ?_
  refine AtL.done ?_
  refine At.cond rfl ?_ ?_
  · intro hc1
    have hc1 : (k : Int) < (l.length : Int) := of_decide_eq_true hc1
    refine At.skip ?_
    refine At.seq ?_
    refine At.block ?_
    refine At.seq ?_
    refine At.region ?_
    refine AtL.move (.inl rfl) rfl rfl ?_
    refine AtL.move (.inl rfl) rfl rfl ?_
    refine AtL.indexS (l := l) k rfl (by omega) Tryz.underlying9 (.inl rfl) rfl rfl rfl ?_
    refine AtL.nei (.inl rfl) rfl rfl rfl ?_
    refine AtL.move (.inl rfl) rfl rfl ?_
    refine AtL.join 5 (E' := [(19, .bool (decide ((¬ (((l.getD k 0).toNat : Int) = 9)) ∧ (((l.getD k 0).toNat : Int) < 32)))), (0, str l), (3, .int .i64 (k : Int))]) (H' := H) (fun J => ?_) ?_
    · refine AtL.split (t := 14) rfl ?_ ?_
      · intro hs14
        have hs14 : ¬ (((l.getD k 0).toNat : Int) = 9) := of_decide_eq_false (bnot_true hs14)
        refine AtL.move (.inr ⟨_, _, _, rfl, rfl, rfl, rfl⟩) rfl rfl ?_
        refine AtL.move (.inr ⟨_, _, _, rfl, rfl, rfl, rfl⟩) rfl rfl ?_
        refine AtL.indexS (l := l) k rfl (by omega) Tryz.underlying9 (.inr ⟨_, _, _, rfl, rfl, rfl, rfl⟩) rfl rfl rfl ?_
        refine AtL.lss (.inr ⟨_, _, _, rfl, rfl, rfl, rfl⟩) rfl rfl rfl ?_
        refine AtL.pickT (.inl rfl) rfl rfl rfl ?_
        exact J _ (by exact ⟨(boolIs (by clear J; first | (simp [hs14]; done) | (simp_all; done) | grind)), rfl, rfl, trivial⟩)
      · intro hs14
        have hs14 : ((l.getD k 0).toNat : Int) = 9 := of_decide_eq_true (bnot_false hs14)
        refine AtL.skipped rfl rfl rfl rfl rfl rfl ?_
        refine AtL.skipped rfl rfl rfl rfl rfl rfl ?_
        refine AtL.skipped rfl rfl rfl rfl rfl rfl ?_
        refine AtL.skipped rfl rfl rfl rfl rfl rfl ?_
        refine AtL.pickF (.inl rfl) rfl rfl rfl ?_
        exact J _ (by exact ⟨(boolIs (by clear J; first | (simp [hs14]; done) | (simp_all; done) | grind)), rfl, rfl, trivial⟩)
    · skip
      refine AtL.move (.inl rfl) rfl rfl ?_
      refine AtL.join 5 (E' := [(25, .bool (decide (((¬ (((l.getD k 0).toNat : Int) = 9)) ∧ (((l.getD k 0).toNat : Int) < 32)) ∨ (((l.getD k 0).toNat : Int) = 127)))), (0, str l), (3, .int .i64 (k : Int))]) (H' := H) (fun J => ?_) ?_
      · refine AtL.split (t := 20) rfl ?_ ?_
        · intro hs20
          have hs20 : (¬ (((l.getD k 0).toNat : Int) = 9)) ∧ (((l.getD k 0).toNat : Int) < 32) := of_decide_eq_true hs20
          refine AtL.skipped rfl rfl rfl rfl rfl rfl ?_
          refine AtL.skipped rfl rfl rfl rfl rfl rfl ?_
          refine AtL.skipped rfl rfl rfl rfl rfl rfl ?_
          refine AtL.skipped rfl rfl rfl rfl rfl rfl ?_
          refine AtL.pickT (.inl rfl) rfl rfl rfl ?_
          exact J _ (by exact ⟨(boolIs (by clear J; first | (simp [hs20]; done) | (simp_all; done) | grind)), rfl, rfl, trivial⟩)
        · intro hs20
          have hs20 : ¬ ((¬ (((l.getD k 0).toNat : Int) = 9)) ∧ (((l.getD k 0).toNat : Int) < 32)) := of_decide_eq_false hs20
          refine AtL.move (.inr ⟨_, _, _, rfl, rfl, rfl, rfl⟩) rfl rfl ?_
          refine AtL.move (.inr ⟨_, _, _, rfl, rfl, rfl, rfl⟩) rfl rfl ?_
          refine AtL.indexS (l := l) k rfl (by omega) Tryz.underlying9 (.inr ⟨_, _, _, rfl, rfl, rfl, rfl⟩) rfl rfl rfl ?_
          refine AtL.eqi (.inr ⟨_, _, _, rfl, rfl, rfl, rfl⟩) rfl rfl rfl ?_
          refine AtL.pickF (.inl rfl) rfl rfl rfl ?_
          exact J _ (by exact ⟨(boolIs (by clear J; first | (simp [hs20]; done) | (simp_all; done) | grind)), rfl, rfl, trivial⟩)
      · skip
        refine AtL.done ?_
        refine At.cond rfl ?_ ?_
        · intro hc2
          have hc2 : ((¬ (((l.getD k 0).toNat : Int) = 9)) ∧ (((l.getD k 0).toNat : Int) < 32)) ∨ (((l.getD k 0).toNat : Int) = 127) := of_decide_eq_true hc2
          refine At.seq ?_
          refine At.region ?_
          refine AtL.assign (.inl rfl) rfl rfl ?_
          refine AtL.done ?_
          exact At.ret Tryz.func110 rfl rfl (⟨congrArg Value.bool (by rw [valueF, all_bad (k := k) (by omega) (valCh_no (by omega)), Bool.false_and]), rfl⟩)
        · intro hc2
          have hc2 : ¬ (((¬ (((l.getD k 0).toNat : Int) = 9)) ∧ (((l.getD k 0).toNat : Int) < 32)) ∨ (((l.getD k 0).toNat : Int) = 127)) := of_decide_eq_false hc2
          refine At.skip ?_
          refine At.inBlock ?_
          refine At.region ?_
          refine AtL.move (.inl rfl) rfl rfl ?_
          refine AtL.add (z := (k : Int) + 1) (.inl rfl) rfl rfl rfl (w64 (by omega) (by omega)) ?_
          refine AtL.assign (.inl rfl) rfl rfl ?_
          refine AtL.done ?_
          refine ihL1 (k + 1) (⟨by omega, all_step (by omega) ha (valCh_yes (by omega))⟩) (by omega) _ ?_
          exact ⟨rfl, (by first | rfl | exact slLen (by simp []) | exact intEq (by omega) | exact intEq (by simp []) | exact slLen (by simp []; omega)), trivial⟩
  · intro hc1
    have hc1 : ¬ ((k : Int) < (l.length : Int)) := of_decide_eq_false hc1
    refine At.exit rfl ?_
    refine At.seq ?_
    refine At.region ?_
    refine AtL.move (.inl rfl) rfl rfl ?_
    refine AtL.call tf_body124 (.inl rfl) rfl rfl (rtrim_ok (l := l) (by first | omega | (simp only [List.length_append, List.length_cons, List.length_nil]; omega) | (simp; done) | (simp; omega))) ?_
    rintro _ _ ⟨rfl, hHq⟩
    obtain rfl := hHq.symm
    refine AtL.move (.inl rfl) rfl rfl ?_
    refine AtL.eqs (a := trimF l) (b := l) (.inl rfl) rfl rfl rfl ?_
    refine AtL.assign (.inl rfl) rfl rfl ?_
    refine AtL.done ?_
    exact At.ret Tryz.func110 rfl rfl (⟨congrArg Value.bool (by rw [valueF, all_end (by omega) ha, Bool.true_and]), rfl⟩)

theorem low_take {a b : List UInt8} {k : Nat} (ha : k < a.length) (hb : k < b.length) (h : (a.take k).map lowB = (b.take k).map lowB) (hk : lowB (a.getD k 0) = lowB (b.getD k 0)) : (a.take (k + 1)).map lowB = (b.take (k + 1)).map lowB := by
  rw [take_succ_d a k ha, take_succ_d b k hb, List.map_append, List.map_append, h]
  simp only [List.map_cons, List.map_nil, hk]
theorem low_ne {a b : List UInt8} {k : Nat} (ha : k < a.length) (hb : k < b.length) (h : lowB (a.getD k 0) ≠ lowB (b.getD k 0)) : lowerF a ≠ lowerF b := by
  intro h2
  apply h
  have h3 := congrArg (fun l => l.getD k 0) h2
  simpa [lowerF, List.getD, ha, hb] using h3
theorem u8_ofInt {a b : UInt8} (h : (a.toNat : Int) = (b.toNat : Int)) : a = b := UInt8.toNat_inj.1 (by omega)

set_option maxHeartbeats 400000 in
theorem rsame_ok {w0 : World} {base : Nat} {H : List Seg} {a b : List UInt8} (ha : a.length ≤ 140737488355000) (hb : b.length ≤ 140737488355000) :
    SCalls Tryz.prog 126 [str a, str b] w0 base (H) (fun v H' => v = .bool (decide (lowerF a = lowerF b)) ∧ H' = H) := by
  refine SCalls.of_walk (n := 44) Tryz.func126 rfl rfl rfl fun cs => ?_
  refine At.seq ?_
  refine At.region ?_
  refine AtL.assign (.inl rfl) rfl rfl ?_
  refine AtL.done ?_
  refine At.seq ?_
  refine At.seq ?_
  refine At.region ?_
  refine AtL.move (.inl rfl) rfl rfl ?_
  refine AtL.lenS (l := a) Tryz.underlying9 (.inl rfl) rfl rfl ?_
  refine AtL.move (.inl rfl) rfl rfl ?_
  refine AtL.lenS (l := b) Tryz.underlying9 (.inl rfl) rfl rfl ?_
  refine AtL.nei (.inl rfl) rfl rfl rfl ?_
  refine AtL.done ?_
  refine At.cond rfl ?_ ?_
  · intro hc1
    have hc1 : ¬ ((a.length : Int) = (b.length : Int)) := of_decide_eq_false (bnot_true hc1)
    refine At.seq ?_
    refine At.region ?_
    refine AtL.assign (.inl rfl) rfl rfl ?_
    refine AtL.done ?_
    exact At.ret Tryz.func126 rfl rfl (⟨congrArg Value.bool (decide_eq_false (fun h => by have := congrArg List.length h; simp [lowerF] at this; omega)).symm, rfl⟩)
  · intro hc1
    have hc1 : (a.length : Int) = (b.length : Int) := of_decide_eq_true (bnot_false hc1)
    refine At.skip ?_
    refine At.seq ?_
    refine At.seq ?_
    refine At.region ?_
    refine AtL.assign (.inl rfl) rfl rfl ?_
    refine AtL.done ?_
    refine At.block ?_
    refine At.loop (fun (k : Nat) => [(0, str a), (1, str b), (5, .int .i64 (k : Int))]) (fun (k : Nat) => H) (fun (k : Nat) => k ≤ a.length ∧ (a.take k).map lowB = (b.take k).map lowB) (fun (k : Nat) => a.length - k) 0 (⟨Nat.zero_le _, rfl⟩) ⟨rfl, rfl, rfl, trivial⟩ rfl ?_
    rintro k ⟨hk, ht⟩ ihL1
    refine At.seq ?_
    refine At.seq ?_
    refine At.region ?_
    refine AtL.move (.inl rfl) rfl rfl ?_
    refine AtL.move (.inl rfl) rfl rfl ?_
    refine AtL.lenS (l := a) Tryz.underlying9 (.inl rfl) rfl rfl ?_
    refine AtL.lss (.inl rfl) rfl rfl rfl ?_
    refine AtL.done ?_
    refine At.cond rfl ?_ ?_
    · intro hc2
      have hc2 : (k : Int) < (a.length : Int) := of_decide_eq_true hc2
      have hBa := u8_le (a.getD k 0)
      have hBb := u8_le (b.getD k 0)
      refine At.skip ?_
      refine At.seq ?_
      refine At.block ?_
      refine At.seq ?_
      refine At.draw (es := []) (pv := [(0, str a), (1, .int .i64 (k : Int)), (2, .int .u8 ((a.getD k 0).toNat : Int)), (3, str b), (4, .int .i64 (k : Int)), (5, .int .u8 ((b.getD k 0).toNat : Int)), (6, .int .u8 ((a.getD k 0).toNat : Int)), (7, .int .u8 ((b.getD k 0).toNat : Int))]) tf_mixed (by kernel_rfl) (by kernel_rfl) (by kernel_rfl) ?_
      refine ⟨⟨.inr ⟨_, rfl, rfl, .inl ⟨rfl, Do.move rfl⟩⟩, .inr ⟨_, rfl, rfl, .inl ⟨rfl, Do.move rfl⟩⟩, .inr ⟨_, rfl, rfl, .inl ⟨rfl, Do.indexS (l := a) k rfl (by omega) Tryz.underlying9 rfl rfl⟩⟩, .inr ⟨_, rfl, rfl, .inl ⟨rfl, Do.move rfl⟩⟩, .inr ⟨_, rfl, rfl, .inl ⟨rfl, Do.move rfl⟩⟩, .inr ⟨_, rfl, rfl, .inl ⟨rfl, Do.indexS (l := b) k rfl (by omega) Tryz.underlying9 rfl rfl⟩⟩, .inr ⟨_, rfl, rfl, .inl ⟨rfl, Do.assign rfl⟩⟩, .inr ⟨_, rfl, rfl, .inl ⟨rfl, Do.assign rfl⟩⟩, trivial⟩, by kernel_rfl, ?_⟩
      refine At.mono (E' := [(0, str a), (1, str b), (5, .int .i64 (k : Int)), (6, .int .u8 ((a.getD k 0).toNat : Int)), (7, .int .u8 ((b.getD k 0).toNat : Int))]) ⟨rfl, rfl, rfl, rfl, rfl, trivial⟩ ?_
      refine At.seq ?_
      refine At.seq ?_
      refine At.region ?_
      refine AtL.move (.inl rfl) rfl rfl ?_
      refine AtL.geq (.inl rfl) rfl rfl rfl ?_
      refine AtL.move (.inl rfl) rfl rfl ?_
      refine AtL.join 3 (E' := [(30, .bool (decide ((65 ≤ ((a.getD k 0).toNat : Int)) ∧ (((a.getD k 0).toNat : Int) ≤ 90)))), (0, str a), (1, str b), (5, .int .i64 (k : Int)), (6, .int .u8 ((a.getD k 0).toNat : Int)), (7, .int .u8 ((b.getD k 0).toNat : Int))]) (H' := H) (fun J => ?_) ?_
      · refine AtL.split (t := 27) rfl ?_ ?_
        · intro hs27
          have hs27 : 65 ≤ ((a.getD k 0).toNat : Int) := of_decide_eq_true hs27
          refine AtL.move (.inr ⟨_, _, _, rfl, rfl, rfl, rfl⟩) rfl rfl ?_
          refine AtL.leq (.inr ⟨_, _, _, rfl, rfl, rfl, rfl⟩) rfl rfl rfl ?_
          refine AtL.pickT (.inl rfl) rfl rfl rfl ?_
          exact J _ (by exact ⟨(boolIs (by clear J; first | (simp [hs27]; done) | (simp_all; done) | grind)), rfl, rfl, rfl, rfl, rfl, trivial⟩)
        · intro hs27
          have hs27 : ¬ (65 ≤ ((a.getD k 0).toNat : Int)) := of_decide_eq_false hs27
          refine AtL.skipped rfl rfl rfl rfl rfl rfl ?_
          refine AtL.skipped rfl rfl rfl rfl rfl rfl ?_
          refine AtL.pickF (.inl rfl) rfl rfl rfl ?_
          exact J _ (by exact ⟨(boolIs (by clear J; first | (simp [hs27]; done) | (simp_all; done) | grind)), rfl, rfl, rfl, rfl, rfl, trivial⟩)
      · skip
        refine AtL.done ?_
        refine At.cond rfl ?_ ?_
        · intro hc3
          have hc3 : (65 ≤ ((a.getD k 0).toNat : Int)) ∧ (((a.getD k 0).toNat : Int) ≤ 90) := of_decide_eq_true hc3
          refine At.region ?_
          refine AtL.move (.inl rfl) rfl rfl ?_
          refine AtL.add (z := ((lowB (a.getD k 0)).toNat : Int)) (.inl rfl) rfl rfl rfl (add32 hc3) ?_
          refine AtL.assign (.inl rfl) rfl rfl ?_
          refine AtL.done ?_
          refine At.seq ?_
          refine At.seq ?_
          refine At.region ?_
          refine AtL.move (.inl rfl) rfl rfl ?_
          refine AtL.geq (.inl rfl) rfl rfl rfl ?_
          refine AtL.move (.inl rfl) rfl rfl ?_
          refine AtL.join 3 (E' := [(38, .bool (decide ((65 ≤ ((b.getD k 0).toNat : Int)) ∧ (((b.getD k 0).toNat : Int) ≤ 90)))), (0, str a), (1, str b), (5, .int .i64 (k : Int)), (6, .int .u8 ((lowB (a.getD k 0)).toNat : Int)), (7, .int .u8 ((b.getD k 0).toNat : Int))]) (H' := H) (fun J => ?_) ?_
          · refine AtL.split (t := 35) rfl ?_ ?_
            · intro hs35
              have hs35 : 65 ≤ ((b.getD k 0).toNat : Int) := of_decide_eq_true hs35
              refine AtL.move (.inr ⟨_, _, _, rfl, rfl, rfl, rfl⟩) rfl rfl ?_
              refine AtL.leq (.inr ⟨_, _, _, rfl, rfl, rfl, rfl⟩) rfl rfl rfl ?_
              refine AtL.pickT (.inl rfl) rfl rfl rfl ?_
              exact J _ (by exact ⟨(boolIs (by clear J; first | (simp [hs35]; done) | (simp_all; done) | grind)), rfl, rfl, rfl, rfl, rfl, trivial⟩)
            · intro hs35
              have hs35 : ¬ (65 ≤ ((b.getD k 0).toNat : Int)) := of_decide_eq_false hs35
              refine AtL.skipped rfl rfl rfl rfl rfl rfl ?_
              refine AtL.skipped rfl rfl rfl rfl rfl rfl ?_
              refine AtL.pickF (.inl rfl) rfl rfl rfl ?_
              exact J _ (by exact ⟨(boolIs (by clear J; first | (simp [hs35]; done) | (simp_all; done) | grind)), rfl, rfl, rfl, rfl, rfl, trivial⟩)
          · skip
            refine AtL.done ?_
            refine At.cond rfl ?_ ?_
            · intro hc4
              have hc4 : (65 ≤ ((b.getD k 0).toNat : Int)) ∧ (((b.getD k 0).toNat : Int) ≤ 90) := of_decide_eq_true hc4
              refine At.region ?_
              refine AtL.move (.inl rfl) rfl rfl ?_
              refine AtL.add (z := ((lowB (b.getD k 0)).toNat : Int)) (.inl rfl) rfl rfl rfl (add32 hc4) ?_
              refine AtL.assign (.inl rfl) rfl rfl ?_
              refine AtL.done ?_
              refine At.seq ?_
              refine At.region ?_
              refine AtL.move (.inl rfl) rfl rfl ?_
              refine AtL.move (.inl rfl) rfl rfl ?_
              refine AtL.nei (.inl rfl) rfl rfl rfl ?_
              refine AtL.done ?_
              refine At.cond rfl ?_ ?_
              · intro hc5
                have hc5 : ¬ (((lowB (a.getD k 0)).toNat : Int) = ((lowB (b.getD k 0)).toNat : Int)) := of_decide_eq_false (bnot_true hc5)
                refine At.seq ?_
                refine At.region ?_
                refine AtL.assign (.inl rfl) rfl rfl ?_
                refine AtL.done ?_
                exact At.ret Tryz.func126 rfl rfl (⟨congrArg Value.bool (decide_eq_false (low_ne (k := k) (by omega) (by omega) (fun h => by exact hc5 (by rw [h])))).symm, rfl⟩)
              · intro hc5
                have hc5 : ((lowB (a.getD k 0)).toNat : Int) = ((lowB (b.getD k 0)).toNat : Int) := of_decide_eq_true (bnot_false hc5)
                refine At.skip ?_
                refine At.inBlock ?_
                refine At.region ?_
                refine AtL.move (.inl rfl) rfl rfl ?_
                refine AtL.add (z := (k : Int) + 1) (.inl rfl) rfl rfl rfl (w64 (by omega) (by omega)) ?_
                refine AtL.assign (.inl rfl) rfl rfl ?_
                refine AtL.done ?_
                refine ihL1 (k + 1) (⟨by omega, low_take (by omega) (by omega) ht (by exact u8_ofInt hc5)⟩) (by omega) _ ?_
                exact ⟨rfl, rfl, (by first | rfl | exact slLen (by simp []) | exact intEq (by omega) | exact intEq (by simp []) | exact slLen (by simp []; omega)), trivial⟩
            · intro hc4
              have hc4 : ¬ ((65 ≤ ((b.getD k 0).toNat : Int)) ∧ (((b.getD k 0).toNat : Int) ≤ 90)) := of_decide_eq_false hc4
              refine At.skip ?_
              refine At.seq ?_
              refine At.region ?_
              refine AtL.move (.inl rfl) rfl rfl ?_
              refine AtL.move (.inl rfl) rfl rfl ?_
              refine AtL.nei (.inl rfl) rfl rfl rfl ?_
              refine AtL.done ?_
              refine At.cond rfl ?_ ?_
              · intro hc5
                have hc5 : ¬ (((lowB (a.getD k 0)).toNat : Int) = ((b.getD k 0).toNat : Int)) := of_decide_eq_false (bnot_true hc5)
                refine At.seq ?_
                refine At.region ?_
                refine AtL.assign (.inl rfl) rfl rfl ?_
                refine AtL.done ?_
                exact At.ret Tryz.func126 rfl rfl (⟨congrArg Value.bool (decide_eq_false (low_ne (k := k) (by omega) (by omega) (fun h => by rw [lowB_no (c := b.getD k 0) (by omega)] at h; exact hc5 (by rw [h])))).symm, rfl⟩)
              · intro hc5
                have hc5 : ((lowB (a.getD k 0)).toNat : Int) = ((b.getD k 0).toNat : Int) := of_decide_eq_true (bnot_false hc5)
                refine At.skip ?_
                refine At.inBlock ?_
                refine At.region ?_
                refine AtL.move (.inl rfl) rfl rfl ?_
                refine AtL.add (z := (k : Int) + 1) (.inl rfl) rfl rfl rfl (w64 (by omega) (by omega)) ?_
                refine AtL.assign (.inl rfl) rfl rfl ?_
                refine AtL.done ?_
                refine ihL1 (k + 1) (⟨by omega, low_take (by omega) (by omega) ht (by rw [lowB_no (c := b.getD k 0) (by omega)]; exact u8_ofInt hc5)⟩) (by omega) _ ?_
                exact ⟨rfl, rfl, (by first | rfl | exact slLen (by simp []) | exact intEq (by omega) | exact intEq (by simp []) | exact slLen (by simp []; omega)), trivial⟩
        · intro hc3
          have hc3 : ¬ ((65 ≤ ((a.getD k 0).toNat : Int)) ∧ (((a.getD k 0).toNat : Int) ≤ 90)) := of_decide_eq_false hc3
          refine At.skip ?_
          refine At.seq ?_
          refine At.seq ?_
          refine At.region ?_
          refine AtL.move (.inl rfl) rfl rfl ?_
          refine AtL.geq (.inl rfl) rfl rfl rfl ?_
          refine AtL.move (.inl rfl) rfl rfl ?_
          refine AtL.join 3 (E' := [(38, .bool (decide ((65 ≤ ((b.getD k 0).toNat : Int)) ∧ (((b.getD k 0).toNat : Int) ≤ 90)))), (0, str a), (1, str b), (5, .int .i64 (k : Int)), (6, .int .u8 ((a.getD k 0).toNat : Int)), (7, .int .u8 ((b.getD k 0).toNat : Int))]) (H' := H) (fun J => ?_) ?_
          · refine AtL.split (t := 35) rfl ?_ ?_
            · intro hs35
              have hs35 : 65 ≤ ((b.getD k 0).toNat : Int) := of_decide_eq_true hs35
              refine AtL.move (.inr ⟨_, _, _, rfl, rfl, rfl, rfl⟩) rfl rfl ?_
              refine AtL.leq (.inr ⟨_, _, _, rfl, rfl, rfl, rfl⟩) rfl rfl rfl ?_
              refine AtL.pickT (.inl rfl) rfl rfl rfl ?_
              exact J _ (by exact ⟨(boolIs (by clear J; first | (simp [hs35]; done) | (simp_all; done) | grind)), rfl, rfl, rfl, rfl, rfl, trivial⟩)
            · intro hs35
              have hs35 : ¬ (65 ≤ ((b.getD k 0).toNat : Int)) := of_decide_eq_false hs35
              refine AtL.skipped rfl rfl rfl rfl rfl rfl ?_
              refine AtL.skipped rfl rfl rfl rfl rfl rfl ?_
              refine AtL.pickF (.inl rfl) rfl rfl rfl ?_
              exact J _ (by exact ⟨(boolIs (by clear J; first | (simp [hs35]; done) | (simp_all; done) | grind)), rfl, rfl, rfl, rfl, rfl, trivial⟩)
          · skip
            refine AtL.done ?_
            refine At.cond rfl ?_ ?_
            · intro hc4
              have hc4 : (65 ≤ ((b.getD k 0).toNat : Int)) ∧ (((b.getD k 0).toNat : Int) ≤ 90) := of_decide_eq_true hc4
              refine At.region ?_
              refine AtL.move (.inl rfl) rfl rfl ?_
              refine AtL.add (z := ((lowB (b.getD k 0)).toNat : Int)) (.inl rfl) rfl rfl rfl (add32 hc4) ?_
              refine AtL.assign (.inl rfl) rfl rfl ?_
              refine AtL.done ?_
              refine At.seq ?_
              refine At.region ?_
              refine AtL.move (.inl rfl) rfl rfl ?_
              refine AtL.move (.inl rfl) rfl rfl ?_
              refine AtL.nei (.inl rfl) rfl rfl rfl ?_
              refine AtL.done ?_
              refine At.cond rfl ?_ ?_
              · intro hc5
                have hc5 : ¬ (((a.getD k 0).toNat : Int) = ((lowB (b.getD k 0)).toNat : Int)) := of_decide_eq_false (bnot_true hc5)
                refine At.seq ?_
                refine At.region ?_
                refine AtL.assign (.inl rfl) rfl rfl ?_
                refine AtL.done ?_
                exact At.ret Tryz.func126 rfl rfl (⟨congrArg Value.bool (decide_eq_false (low_ne (k := k) (by omega) (by omega) (fun h => by rw [lowB_no (c := a.getD k 0) (by omega)] at h; exact hc5 (by rw [h])))).symm, rfl⟩)
              · intro hc5
                have hc5 : ((a.getD k 0).toNat : Int) = ((lowB (b.getD k 0)).toNat : Int) := of_decide_eq_true (bnot_false hc5)
                refine At.skip ?_
                refine At.inBlock ?_
                refine At.region ?_
                refine AtL.move (.inl rfl) rfl rfl ?_
                refine AtL.add (z := (k : Int) + 1) (.inl rfl) rfl rfl rfl (w64 (by omega) (by omega)) ?_
                refine AtL.assign (.inl rfl) rfl rfl ?_
                refine AtL.done ?_
                refine ihL1 (k + 1) (⟨by omega, low_take (by omega) (by omega) ht (by rw [lowB_no (c := a.getD k 0) (by omega)]; exact u8_ofInt hc5)⟩) (by omega) _ ?_
                exact ⟨rfl, rfl, (by first | rfl | exact slLen (by simp []) | exact intEq (by omega) | exact intEq (by simp []) | exact slLen (by simp []; omega)), trivial⟩
            · intro hc4
              have hc4 : ¬ ((65 ≤ ((b.getD k 0).toNat : Int)) ∧ (((b.getD k 0).toNat : Int) ≤ 90)) := of_decide_eq_false hc4
              refine At.skip ?_
              refine At.seq ?_
              refine At.region ?_
              refine AtL.move (.inl rfl) rfl rfl ?_
              refine AtL.move (.inl rfl) rfl rfl ?_
              refine AtL.nei (.inl rfl) rfl rfl rfl ?_
              refine AtL.done ?_
              refine At.cond rfl ?_ ?_
              · intro hc5
                have hc5 : ¬ (((a.getD k 0).toNat : Int) = ((b.getD k 0).toNat : Int)) := of_decide_eq_false (bnot_true hc5)
                refine At.seq ?_
                refine At.region ?_
                refine AtL.assign (.inl rfl) rfl rfl ?_
                refine AtL.done ?_
                exact At.ret Tryz.func126 rfl rfl (⟨congrArg Value.bool (decide_eq_false (low_ne (k := k) (by omega) (by omega) (fun h => by rw [lowB_no (c := a.getD k 0) (by omega)] at h; rw [lowB_no (c := b.getD k 0) (by omega)] at h; exact hc5 (by rw [h])))).symm, rfl⟩)
              · intro hc5
                have hc5 : ((a.getD k 0).toNat : Int) = ((b.getD k 0).toNat : Int) := of_decide_eq_true (bnot_false hc5)
                refine At.skip ?_
                refine At.inBlock ?_
                refine At.region ?_
                refine AtL.move (.inl rfl) rfl rfl ?_
                refine AtL.add (z := (k : Int) + 1) (.inl rfl) rfl rfl rfl (w64 (by omega) (by omega)) ?_
                refine AtL.assign (.inl rfl) rfl rfl ?_
                refine AtL.done ?_
                refine ihL1 (k + 1) (⟨by omega, low_take (by omega) (by omega) ht (by rw [lowB_no (c := a.getD k 0) (by omega)]; rw [lowB_no (c := b.getD k 0) (by omega)]; exact u8_ofInt hc5)⟩) (by omega) _ ?_
                exact ⟨rfl, rfl, (by first | rfl | exact slLen (by simp []) | exact intEq (by omega) | exact intEq (by simp []) | exact slLen (by simp []; omega)), trivial⟩
    · intro hc2
      have hc2 : ¬ ((k : Int) < (a.length : Int)) := of_decide_eq_false hc2
      refine At.exit rfl ?_
      refine At.seq ?_
      refine At.region ?_
      refine AtL.assign (.inl rfl) rfl rfl ?_
      refine AtL.done ?_
      exact At.ret Tryz.func126 rfl rfl (⟨congrArg Value.bool (decide_eq_true (by rw [List.take_of_length_le (by omega), List.take_of_length_le (by omega)] at ht; exact ht)).symm, rfl⟩)

end Go.Proofs.YtlkdmbpbjhjkfaaGreatDoor
