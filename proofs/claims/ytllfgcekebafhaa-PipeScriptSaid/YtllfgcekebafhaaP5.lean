/- The contracts of the answer beside a sealed channel. -/
import Derived.Test.YtllfgcekebafhaaP4
namespace Go.Proofs.Ytllfgcekebafhaa
set_option linter.unusedVariables false
set_option linter.unusedSimpArgs false
set_option maxRecDepth 100000

set_option maxHeartbeats 1000000 in
theorem rone_ok {w0 : World} {base : Nat} {H : List Seg} {b : Nat} {y : Sl tyB 5} {hello out gr sh : Bool} (hl : y.l.length ≤ 140737488355000) :
    SCalls Try.prog 30 [.pointer (some ⟨b, 0, none⟩)] w0 base (y.s :: [(b, .cells #[.bool true, .slice y.A y.l.length y.C, .bool hello, .bool out, .bool false, .bool gr, .bool sh] 44 (0, 0))] :: H) (fun v H' => ∃ A' C', Rd tyB w0 base H' A' C' (oneF hello y.l).x ∧ v = .tuple #[.slice A' (oneF hello y.l).x.length C', int (oneF hello y.l).n, .bool (decide ((oneF hello y.l).e = 0 ∧ (oneF hello y.l).n ≠ 0)), int (oneF hello y.l).e] ∧ H' = y.s :: [(b, .cells #[.bool true, .slice y.A y.l.length y.C, .bool ((oneF hello y.l).h), .bool out, .bool ((oneF hello y.l).off), .bool gr, .bool sh] 44 (0, 0))] :: H) := by
  refine SCalls.of_walk (n := 93) Try.func30 rfl rfl rfl fun cs => ?_
  refine At.seq ?_
  refine At.region ?_
  refine AtL.assign (.inl rfl) rfl rfl ?_
  refine AtL.assign (.inl rfl) rfl rfl ?_
  refine AtL.assign (.inl rfl) rfl rfl ?_
  refine AtL.assign (.inl rfl) rfl rfl ?_
  refine AtL.done ?_
  refine At.seq ?_
  refine At.region ?_
  refine AtL.move (.inl rfl) rfl rfl ?_
  refine AtL.nilCheck (.inl rfl) rfl rfl ?_
  refine AtL.fieldAddrB tf_fo44_1 (.inl rfl) rfl rfl rfl ?_
  refine AtL.load tf_flat22 (.inl rfl) rfl rfl (Cell.own 1 0 rfl rfl rfl) ?_
  refine AtL.assign (.inl rfl) rfl rfl ?_
  refine AtL.done ?_
  refine At.seq ?_
  refine At.seq ?_
  refine At.region ?_
  refine AtL.move (.inl rfl) rfl rfl ?_
  refine AtL.lenL Try.underlying22 (.inl rfl) rfl rfl ?_
  refine AtL.lss (.inl rfl) rfl rfl rfl ?_
  refine AtL.done ?_
  refine At.cond rfl ?_ ?_
  · intro hc1
    have hc1 : (y.l.length : Int) < 1 := of_decide_eq_true hc1
    refine At.seq ?_
    refine At.region ?_
    refine AtL.assign (.inl rfl) rfl rfl ?_
    refine AtL.assign (.inl rfl) rfl rfl ?_
    refine AtL.assign (.inl rfl) rfl rfl ?_
    refine AtL.assign (.inl rfl) rfl rfl ?_
    refine AtL.done ?_
    have hone : oneF hello y.l = ⟨0, 0, [], hello, false⟩ := by rw [oneF]; grind [subl_len]
    rw [hone]
    exact At.ret Try.func30 rfl rfl (⟨none, 0, Rd.nil_, (by first | rfl | simp [oneOf]), rfl⟩)
  · intro hc1
    have hc1 : ¬ ((y.l.length : Int) < 1) := of_decide_eq_false hc1
    refine At.skip ?_
    refine At.seq ?_
    refine At.region ?_
    refine AtL.move (.inl rfl) rfl rfl ?_
    refine AtL.indexL 0 (y.own.rd (i := 0) rfl) Try.underlying22 tf_sz5 (.inl rfl) rfl rfl rfl rfl (by omega) ?_
    refine AtL.load (v := .int .u8 ((y.l.getD 0 0).toNat : Int)) tf_flat5 (.inl rfl) rfl rfl (Rd.cell0 (y.own.rd (i := 0) rfl) (getD_some 0 (by omega)) rfl) ?_
    have hB1 := u8_le ((y.l.getD 0 0))
    refine AtL.convInt (z := ((y.l.getD 0 0).toNat : Int)) Try.underlying5 Try.underlying3 (.inl rfl) rfl rfl (u8_i64 _) ?_
    refine AtL.assign (.inl rfl) rfl rfl ?_
    refine AtL.done ?_
    refine At.seq ?_
    refine At.seq ?_
    refine At.region ?_
    refine AtL.move (.inl rfl) rfl rfl ?_
    refine AtL.lss (.inl rfl) rfl rfl rfl ?_
    refine AtL.move (.inl rfl) rfl rfl ?_
    refine AtL.join 3 (E' := [(25, .bool (decide ((((y.l.getD 0 0).toNat : Int) < 1) ∨ (3 < ((y.l.getD 0 0).toNat : Int))))), (0, .pointer (some ⟨b, 0, none⟩)), (6, .slice y.A y.l.length y.C), (7, .int .i64 ((y.l.getD 0 0).toNat : Int))]) (H' := y.s :: [(b, .cells #[.bool true, .slice y.A y.l.length y.C, .bool hello, .bool out, .bool false, .bool gr, .bool sh] 44 (0, 0))] :: H) (fun J => ?_) ?_
    · refine AtL.split (t := 22) rfl ?_ ?_
      · intro hs22
        have hs22 : ((y.l.getD 0 0).toNat : Int) < 1 := of_decide_eq_true hs22
        refine AtL.skipped rfl rfl rfl rfl rfl rfl ?_
        refine AtL.skipped rfl rfl rfl rfl rfl rfl ?_
        refine AtL.pickT (.inl rfl) rfl rfl rfl ?_
        exact J _ (by exact ⟨(boolIs (by clear J; first | (simp [hs22]; done) | (simp_all; done) | grind)), rfl, rfl, rfl, trivial⟩)
      · intro hs22
        have hs22 : ¬ (((y.l.getD 0 0).toNat : Int) < 1) := of_decide_eq_false hs22
        refine AtL.move (.inr ⟨_, _, _, rfl, rfl, rfl, rfl⟩) rfl rfl ?_
        refine AtL.gtr (.inr ⟨_, _, _, rfl, rfl, rfl, rfl⟩) rfl rfl rfl ?_
        refine AtL.pickF (.inl rfl) rfl rfl rfl ?_
        exact J _ (by exact ⟨(boolIs (by clear J; first | (simp [hs22]; done) | (simp_all; done) | grind)), rfl, rfl, rfl, trivial⟩)
    · skip
      refine AtL.move (.inl rfl) rfl rfl ?_
      refine AtL.join 8 (E' := [(34, .bool (decide (((((y.l.getD 0 0).toNat : Int) < 1) ∨ (3 < ((y.l.getD 0 0).toNat : Int))) ∨ (((decide (((y.l.getD 0 0).toNat : Int) = 1)) == hello) = true)))), (0, .pointer (some ⟨b, 0, none⟩)), (6, .slice y.A y.l.length y.C), (7, .int .i64 ((y.l.getD 0 0).toNat : Int))]) (H' := y.s :: [(b, .cells #[.bool true, .slice y.A y.l.length y.C, .bool hello, .bool out, .bool false, .bool gr, .bool sh] 44 (0, 0))] :: H) (fun J => ?_) ?_
      · refine AtL.split (t := 26) rfl ?_ ?_
        · intro hs26
          have hs26 : (((y.l.getD 0 0).toNat : Int) < 1) ∨ (3 < ((y.l.getD 0 0).toNat : Int)) := of_decide_eq_true hs26
          refine AtL.skipped rfl rfl rfl rfl rfl rfl ?_
          refine AtL.skipped rfl rfl rfl rfl rfl rfl ?_
          refine AtL.skipped rfl rfl rfl rfl rfl rfl ?_
          refine AtL.skipped rfl rfl rfl rfl rfl rfl ?_
          refine AtL.skipped rfl rfl rfl rfl rfl rfl ?_
          refine AtL.skipped rfl rfl rfl rfl rfl rfl ?_
          refine AtL.skipped rfl rfl rfl rfl rfl rfl ?_
          refine AtL.pickT (.inl rfl) rfl rfl rfl ?_
          exact J _ (by exact ⟨(boolIs (by clear J; first | (simp [hs26]; done) | (simp_all; done) | grind)), rfl, rfl, rfl, trivial⟩)
        · intro hs26
          have hs26 : ¬ ((((y.l.getD 0 0).toNat : Int) < 1) ∨ (3 < ((y.l.getD 0 0).toNat : Int))) := of_decide_eq_false hs26
          refine AtL.move (.inr ⟨_, _, _, rfl, rfl, rfl, rfl⟩) rfl rfl ?_
          refine AtL.eqi (.inr ⟨_, _, _, rfl, rfl, rfl, rfl⟩) rfl rfl rfl ?_
          refine AtL.move (.inr ⟨_, _, _, rfl, rfl, rfl, rfl⟩) rfl rfl ?_
          refine AtL.nilCheck (.inr ⟨_, _, _, rfl, rfl, rfl, rfl⟩) rfl rfl ?_
          refine AtL.fieldAddrB tf_fo44_2 (.inr ⟨_, _, _, rfl, rfl, rfl, rfl⟩) rfl rfl rfl ?_
          refine AtL.load tf_flat4 (.inr ⟨_, _, _, rfl, rfl, rfl, rfl⟩) rfl rfl (Cell.own 1 0 rfl rfl rfl) ?_
          refine AtL.eqb Try.underlying4 (.inr ⟨_, _, _, rfl, rfl, rfl, rfl⟩) rfl rfl rfl ?_
          refine AtL.pickF (.inl rfl) rfl rfl rfl ?_
          exact J _ (by exact ⟨(boolIs (by clear J; first | (simp [hs26]; done) | (simp_all; done) | grind)), rfl, rfl, rfl, trivial⟩)
      · skip
        refine AtL.done ?_
        refine At.cond rfl ?_ ?_
        · intro hc2
          have hc2 : ((((y.l.getD 0 0).toNat : Int) < 1) ∨ (3 < ((y.l.getD 0 0).toNat : Int))) ∨ (((decide (((y.l.getD 0 0).toNat : Int) = 1)) == hello) = true) := of_decide_eq_true hc2
          refine At.seq ?_
          refine At.region ?_
          refine AtL.assign (.inl rfl) rfl rfl ?_
          refine AtL.assign (.inl rfl) rfl rfl ?_
          refine AtL.assign (.inl rfl) rfl rfl ?_
          refine AtL.assign (.inl rfl) rfl rfl ?_
          refine AtL.done ?_
          have hone : oneF hello y.l = ⟨4, 0, [], hello, false⟩ := by rw [oneF]; grind [subl_len]
          rw [hone]
          exact At.ret Try.func30 rfl rfl (⟨none, 0, Rd.nil_, (by first | rfl | simp [oneOf]), rfl⟩)
        · intro hc2
          have hc2 : ¬ (((((y.l.getD 0 0).toNat : Int) < 1) ∨ (3 < ((y.l.getD 0 0).toNat : Int))) ∨ (((decide (((y.l.getD 0 0).toNat : Int) = 1)) == hello) = true)) := of_decide_eq_false hc2
          refine At.skip ?_
          refine At.seq ?_
          refine At.seq ?_
          refine At.region ?_
          refine AtL.move (.inl rfl) rfl rfl ?_
          refine AtL.lenL Try.underlying22 (.inl rfl) rfl rfl ?_
          refine AtL.lss (.inl rfl) rfl rfl rfl ?_
          refine AtL.done ?_
          refine At.cond rfl ?_ ?_
          · intro hc3
            have hc3 : (y.l.length : Int) < 3 := of_decide_eq_true hc3
            refine At.seq ?_
            refine At.region ?_
            refine AtL.assign (.inl rfl) rfl rfl ?_
            refine AtL.assign (.inl rfl) rfl rfl ?_
            refine AtL.assign (.inl rfl) rfl rfl ?_
            refine AtL.assign (.inl rfl) rfl rfl ?_
            refine AtL.done ?_
            have hone : oneF hello y.l = ⟨0, 0, [], hello, false⟩ := by rw [oneF]; grind [subl_len]
            rw [hone]
            exact At.ret Try.func30 rfl rfl (⟨none, 0, Rd.nil_, (by first | rfl | simp [oneOf]), rfl⟩)
          · intro hc3
            have hc3 : ¬ ((y.l.length : Int) < 3) := of_decide_eq_false hc3
            refine At.skip ?_
            refine At.seq ?_
            have hB2 := u8_le ((y.l.getD 1 0))
            have hB3 := u8_le ((y.l.getD 2 0))
            refine At.draw (es := []) (pv := [(0, .slice y.A y.l.length y.C), (1, .pointer (some (eaddr y.A (1 * tyB.sz)))), (2, .int .u8 ((y.l.getD 1 0).toNat : Int)), (3, .int .i64 ((y.l.getD 1 0).toNat : Int)), (4, .int .i64 (256 * ((y.l.getD 1 0).toNat : Int))), (5, .slice y.A y.l.length y.C), (6, .pointer (some (eaddr y.A (2 * tyB.sz)))), (7, .int .u8 ((y.l.getD 2 0).toNat : Int)), (8, .int .i64 ((y.l.getD 2 0).toNat : Int)), (9, .int .i64 ((256 * ((y.l.getD 1 0).toNat : Int)) + ((y.l.getD 2 0).toNat : Int))), (10, .int .i64 ((256 * ((y.l.getD 1 0).toNat : Int)) + ((y.l.getD 2 0).toNat : Int)))]) tf_mixed (by kernel_rfl) (by kernel_rfl) (by kernel_rfl) ?_
            refine ⟨⟨.inr ⟨_, rfl, rfl, .inl ⟨rfl, Do.move rfl⟩⟩, .inr ⟨_, rfl, rfl, .inl ⟨rfl, Do.indexL 1 (y.own.rd (i := 0) rfl) Try.underlying22 tf_sz5 rfl rfl rfl (by omega)⟩⟩, .inr ⟨_, rfl, rfl, .inl ⟨rfl, Do.load (v := .int .u8 ((y.l.getD 1 0).toNat : Int)) tf_flat5 rfl (Rd.cell0 (y.own.rd (i := 0) rfl) (getD_some 0 (by omega)) rfl)⟩⟩, .inr ⟨_, rfl, rfl, .inl ⟨rfl, Do.convInt (z := ((y.l.getD 1 0).toNat : Int)) Try.underlying5 Try.underlying3 rfl (u8_i64 _)⟩⟩, .inr ⟨_, rfl, rfl, .inl ⟨rfl, Do.mul (z := 256 * ((y.l.getD 1 0).toNat : Int)) rfl rfl (w64 (by omega) (by omega))⟩⟩, .inr ⟨_, rfl, rfl, .inl ⟨rfl, Do.move rfl⟩⟩, .inr ⟨_, rfl, rfl, .inl ⟨rfl, Do.indexL 2 (y.own.rd (i := 0) rfl) Try.underlying22 tf_sz5 rfl rfl rfl (by omega)⟩⟩, .inr ⟨_, rfl, rfl, .inl ⟨rfl, Do.load (v := .int .u8 ((y.l.getD 2 0).toNat : Int)) tf_flat5 rfl (Rd.cell0 (y.own.rd (i := 0) rfl) (getD_some 0 (by omega)) rfl)⟩⟩, .inr ⟨_, rfl, rfl, .inl ⟨rfl, Do.convInt (z := ((y.l.getD 2 0).toNat : Int)) Try.underlying5 Try.underlying3 rfl (u8_i64 _)⟩⟩, .inr ⟨_, rfl, rfl, .inl ⟨rfl, Do.add (z := (256 * ((y.l.getD 1 0).toNat : Int)) + ((y.l.getD 2 0).toNat : Int)) rfl rfl (w64 (by omega) (by omega))⟩⟩, .inr ⟨_, rfl, rfl, .inl ⟨rfl, Do.assign rfl⟩⟩, trivial⟩, by kernel_rfl, ?_⟩
            refine At.mono (E' := [(0, .pointer (some ⟨b, 0, none⟩)), (6, .slice y.A y.l.length y.C), (7, .int .i64 ((y.l.getD 0 0).toNat : Int)), (8, .int .i64 ((256 * ((y.l.getD 1 0).toNat : Int)) + ((y.l.getD 2 0).toNat : Int)))]) ⟨rfl, rfl, rfl, rfl, trivial⟩ ?_
            refine At.seq ?_
            refine At.seq ?_
            refine At.region ?_
            refine AtL.move (.inl rfl) rfl rfl ?_
            refine AtL.eqi (.inl rfl) rfl rfl rfl ?_
            refine AtL.move (.inl rfl) rfl rfl ?_
            refine AtL.join 3 (E' := [(53, .bool (decide ((((y.l.getD 0 0).toNat : Int) = 1) ∧ (¬ (((256 * ((y.l.getD 1 0).toNat : Int)) + ((y.l.getD 2 0).toNat : Int)) = 1))))), (0, .pointer (some ⟨b, 0, none⟩)), (6, .slice y.A y.l.length y.C), (7, .int .i64 ((y.l.getD 0 0).toNat : Int)), (8, .int .i64 ((256 * ((y.l.getD 1 0).toNat : Int)) + ((y.l.getD 2 0).toNat : Int)))]) (H' := y.s :: [(b, .cells #[.bool true, .slice y.A y.l.length y.C, .bool hello, .bool out, .bool false, .bool gr, .bool sh] 44 (0, 0))] :: H) (fun J => ?_) ?_
            · refine AtL.split (t := 50) rfl ?_ ?_
              · intro hs50
                have hs50 : ((y.l.getD 0 0).toNat : Int) = 1 := of_decide_eq_true hs50
                refine AtL.move (.inr ⟨_, _, _, rfl, rfl, rfl, rfl⟩) rfl rfl ?_
                refine AtL.nei (.inr ⟨_, _, _, rfl, rfl, rfl, rfl⟩) rfl rfl rfl ?_
                refine AtL.pickT (.inl rfl) rfl rfl rfl ?_
                exact J _ (by exact ⟨(boolIs (by clear J; first | (simp [hs50]; done) | (simp_all; done) | grind)), rfl, rfl, rfl, rfl, trivial⟩)
              · intro hs50
                have hs50 : ¬ (((y.l.getD 0 0).toNat : Int) = 1) := of_decide_eq_false hs50
                refine AtL.skipped rfl rfl rfl rfl rfl rfl ?_
                refine AtL.skipped rfl rfl rfl rfl rfl rfl ?_
                refine AtL.pickF (.inl rfl) rfl rfl rfl ?_
                exact J _ (by exact ⟨(boolIs (by clear J; first | (simp [hs50]; done) | (simp_all; done) | grind)), rfl, rfl, rfl, rfl, trivial⟩)
            · skip
              refine AtL.move (.inl rfl) rfl rfl ?_
              refine AtL.join 7 (E' := [(61, .bool (decide (((((y.l.getD 0 0).toNat : Int) = 1) ∧ (¬ (((256 * ((y.l.getD 1 0).toNat : Int)) + ((y.l.getD 2 0).toNat : Int)) = 1))) ∨ ((((y.l.getD 0 0).toNat : Int) = 3) ∧ (¬ (((256 * ((y.l.getD 1 0).toNat : Int)) + ((y.l.getD 2 0).toNat : Int)) = 0)))))), (0, .pointer (some ⟨b, 0, none⟩)), (6, .slice y.A y.l.length y.C), (7, .int .i64 ((y.l.getD 0 0).toNat : Int)), (8, .int .i64 ((256 * ((y.l.getD 1 0).toNat : Int)) + ((y.l.getD 2 0).toNat : Int)))]) (H' := y.s :: [(b, .cells #[.bool true, .slice y.A y.l.length y.C, .bool hello, .bool out, .bool false, .bool gr, .bool sh] 44 (0, 0))] :: H) (fun J => ?_) ?_
              · refine AtL.split (t := 54) rfl ?_ ?_
                · intro hs54
                  have hs54 : (((y.l.getD 0 0).toNat : Int) = 1) ∧ (¬ (((256 * ((y.l.getD 1 0).toNat : Int)) + ((y.l.getD 2 0).toNat : Int)) = 1)) := of_decide_eq_true hs54
                  refine AtL.skipped rfl rfl rfl rfl rfl rfl ?_
                  refine AtL.skipped rfl rfl rfl rfl rfl rfl ?_
                  refine AtL.skipped rfl rfl rfl rfl rfl rfl ?_
                  refine AtL.skippedU rfl rfl rfl rfl rfl ?_
                  refine AtL.skippedU rfl rfl rfl rfl rfl ?_
                  refine AtL.skipped rfl rfl rfl rfl rfl rfl ?_
                  refine AtL.pickT (.inl rfl) rfl rfl rfl ?_
                  exact J _ (by exact ⟨(boolIs (by clear J; first | (simp [hs54]; done) | (simp_all; done) | grind)), rfl, rfl, rfl, rfl, trivial⟩)
                · intro hs54
                  have hs54 : ¬ ((((y.l.getD 0 0).toNat : Int) = 1) ∧ (¬ (((256 * ((y.l.getD 1 0).toNat : Int)) + ((y.l.getD 2 0).toNat : Int)) = 1))) := of_decide_eq_false hs54
                  refine AtL.move (.inr ⟨_, _, _, rfl, rfl, rfl, rfl⟩) rfl rfl ?_
                  refine AtL.eqi (.inr ⟨_, _, _, rfl, rfl, rfl, rfl⟩) rfl rfl rfl ?_
                  refine AtL.move (.inr ⟨_, _, _, rfl, rfl, rfl, rfl⟩) rfl rfl ?_
                  refine AtL.join 3 (E' := [(60, .bool (decide ((((y.l.getD 0 0).toNat : Int) = 3) ∧ (¬ (((256 * ((y.l.getD 1 0).toNat : Int)) + ((y.l.getD 2 0).toNat : Int)) = 0))))), (0, .pointer (some ⟨b, 0, none⟩)), (6, .slice y.A y.l.length y.C), (7, .int .i64 ((y.l.getD 0 0).toNat : Int)), (8, .int .i64 ((256 * ((y.l.getD 1 0).toNat : Int)) + ((y.l.getD 2 0).toNat : Int))), (54, .bool false)]) (H' := y.s :: [(b, .cells #[.bool true, .slice y.A y.l.length y.C, .bool hello, .bool out, .bool false, .bool gr, .bool sh] 44 (0, 0))] :: H) (fun J => ?_) ?_
                  · refine AtL.split (t := 57) rfl ?_ ?_
                    · intro hs57
                      have hs57 : ((y.l.getD 0 0).toNat : Int) = 3 := of_decide_eq_true hs57
                      refine AtL.move (.inr ⟨_, _, _, rfl, rfl, rfl, rfl⟩) rfl rfl ?_
                      refine AtL.nei (.inr ⟨_, _, _, rfl, rfl, rfl, rfl⟩) rfl rfl rfl ?_
                      refine AtL.pickT (.inr ⟨_, _, _, rfl, rfl, rfl, rfl⟩) rfl rfl rfl ?_
                      exact J _ (by exact ⟨(boolIs (by clear J; first | (simp [hs57]; done) | (simp_all; done) | grind)), rfl, rfl, rfl, rfl, rfl, trivial⟩)
                    · intro hs57
                      have hs57 : ¬ (((y.l.getD 0 0).toNat : Int) = 3) := of_decide_eq_false hs57
                      refine AtL.skipped rfl rfl rfl rfl rfl rfl ?_
                      refine AtL.skipped rfl rfl rfl rfl rfl rfl ?_
                      refine AtL.pickF (.inr ⟨_, _, _, rfl, rfl, rfl, rfl⟩) rfl rfl rfl ?_
                      exact J _ (by exact ⟨(boolIs (by clear J; first | (simp [hs57]; done) | (simp_all; done) | grind)), rfl, rfl, rfl, rfl, rfl, trivial⟩)
                  · skip
                    refine AtL.pickF (.inl rfl) rfl rfl rfl ?_
                    exact J _ (by exact ⟨(boolIs (by clear J; first | (simp [hs54]; done) | (simp_all; done) | grind)), rfl, rfl, rfl, rfl, trivial⟩)
              · skip
                refine AtL.done ?_
                refine At.cond rfl ?_ ?_
                · intro hc4
                  have hc4 : ((((y.l.getD 0 0).toNat : Int) = 1) ∧ (¬ (((256 * ((y.l.getD 1 0).toNat : Int)) + ((y.l.getD 2 0).toNat : Int)) = 1))) ∨ ((((y.l.getD 0 0).toNat : Int) = 3) ∧ (¬ (((256 * ((y.l.getD 1 0).toNat : Int)) + ((y.l.getD 2 0).toNat : Int)) = 0))) := of_decide_eq_true hc4
                  refine At.seq ?_
                  refine At.region ?_
                  refine AtL.assign (.inl rfl) rfl rfl ?_
                  refine AtL.assign (.inl rfl) rfl rfl ?_
                  refine AtL.assign (.inl rfl) rfl rfl ?_
                  refine AtL.assign (.inl rfl) rfl rfl ?_
                  refine AtL.done ?_
                  have hone : oneF hello y.l = ⟨4, 0, [], hello, false⟩ := by rw [oneF]; grind [subl_len]
                  rw [hone]
                  exact At.ret Try.func30 rfl rfl (⟨none, 0, Rd.nil_, (by first | rfl | simp [oneOf]), rfl⟩)
                · intro hc4
                  have hc4 : ¬ (((((y.l.getD 0 0).toNat : Int) = 1) ∧ (¬ (((256 * ((y.l.getD 1 0).toNat : Int)) + ((y.l.getD 2 0).toNat : Int)) = 1))) ∨ ((((y.l.getD 0 0).toNat : Int) = 3) ∧ (¬ (((256 * ((y.l.getD 1 0).toNat : Int)) + ((y.l.getD 2 0).toNat : Int)) = 0)))) := of_decide_eq_false hc4
                  refine At.skip ?_
                  refine At.seq ?_
                  refine At.seq ?_
                  refine At.region ?_
                  refine AtL.move (.inl rfl) rfl rfl ?_
                  refine AtL.gtr (.inl rfl) rfl rfl rfl ?_
                  refine AtL.done ?_
                  refine At.cond rfl ?_ ?_
                  · intro hc5
                    have hc5 : 1024 < ((256 * ((y.l.getD 1 0).toNat : Int)) + ((y.l.getD 2 0).toNat : Int)) := of_decide_eq_true hc5
                    refine At.seq ?_
                    refine At.region ?_
                    refine AtL.assign (.inl rfl) rfl rfl ?_
                    refine AtL.assign (.inl rfl) rfl rfl ?_
                    refine AtL.assign (.inl rfl) rfl rfl ?_
                    refine AtL.assign (.inl rfl) rfl rfl ?_
                    refine AtL.done ?_
                    have hone : oneF hello y.l = ⟨3, 0, [], hello, false⟩ := by rw [oneF]; grind [subl_len]
                    rw [hone]
                    exact At.ret Try.func30 rfl rfl (⟨none, 0, Rd.nil_, (by first | rfl | simp [oneOf]), rfl⟩)
                  · intro hc5
                    have hc5 : ¬ (1024 < ((256 * ((y.l.getD 1 0).toNat : Int)) + ((y.l.getD 2 0).toNat : Int))) := of_decide_eq_false hc5
                    refine At.skip ?_
                    refine At.seq ?_
                    refine At.seq ?_
                    refine At.region ?_
                    refine AtL.move (.inl rfl) rfl rfl ?_
                    refine AtL.lenL Try.underlying22 (.inl rfl) rfl rfl ?_
                    refine AtL.sub (z := (y.l.length : Int) - 3) (.inl rfl) rfl rfl rfl (w64 (by omega) (by omega)) ?_
                    refine AtL.move (.inl rfl) rfl rfl ?_
                    refine AtL.lss (.inl rfl) rfl rfl rfl ?_
                    refine AtL.done ?_
                    refine At.cond rfl ?_ ?_
                    · intro hc6
                      have hc6 : ((y.l.length : Int) - 3) < ((256 * ((y.l.getD 1 0).toNat : Int)) + ((y.l.getD 2 0).toNat : Int)) := of_decide_eq_true hc6
                      refine At.seq ?_
                      refine At.region ?_
                      refine AtL.assign (.inl rfl) rfl rfl ?_
                      refine AtL.assign (.inl rfl) rfl rfl ?_
                      refine AtL.assign (.inl rfl) rfl rfl ?_
                      refine AtL.assign (.inl rfl) rfl rfl ?_
                      refine AtL.done ?_
                      have hone : oneF hello y.l = ⟨0, 0, [], hello, false⟩ := by rw [oneF]; grind [subl_len]
                      rw [hone]
                      exact At.ret Try.func30 rfl rfl (⟨none, 0, Rd.nil_, (by first | rfl | simp [oneOf]), rfl⟩)
                    · intro hc6
                      have hc6 : ¬ (((y.l.length : Int) - 3) < ((256 * ((y.l.getD 1 0).toNat : Int)) + ((y.l.getD 2 0).toNat : Int))) := of_decide_eq_false hc6
                      refine At.skip ?_
                      refine At.seq ?_
                      refine At.seq ?_
                      refine At.region ?_
                      refine AtL.move (.inl rfl) rfl rfl ?_
                      refine AtL.eqi (.inl rfl) rfl rfl rfl ?_
                      refine AtL.move (.inl rfl) rfl rfl ?_
                      refine AtL.join 5 (E' := [(76, .bool (decide ((((y.l.getD 0 0).toNat : Int) = 1) ∧ (¬ (((y.l.getD 3 0).toNat : Int) = 1))))), (0, .pointer (some ⟨b, 0, none⟩)), (6, .slice y.A y.l.length y.C), (7, .int .i64 ((y.l.getD 0 0).toNat : Int)), (8, .int .i64 ((256 * ((y.l.getD 1 0).toNat : Int)) + ((y.l.getD 2 0).toNat : Int)))]) (H' := y.s :: [(b, .cells #[.bool true, .slice y.A y.l.length y.C, .bool hello, .bool out, .bool false, .bool gr, .bool sh] 44 (0, 0))] :: H) (fun J => ?_) ?_
                      · refine AtL.split (t := 71) rfl ?_ ?_
                        · intro hs71
                          have hs71 : ((y.l.getD 0 0).toNat : Int) = 1 := of_decide_eq_true hs71
                          refine AtL.move (.inr ⟨_, _, _, rfl, rfl, rfl, rfl⟩) rfl rfl ?_
                          refine AtL.indexL 3 (y.own.rd (i := 0) rfl) Try.underlying22 tf_sz5 (.inr ⟨_, _, _, rfl, rfl, rfl, rfl⟩) rfl rfl rfl rfl (by omega) ?_
                          refine AtL.load (v := .int .u8 ((y.l.getD 3 0).toNat : Int)) tf_flat5 (.inr ⟨_, _, _, rfl, rfl, rfl, rfl⟩) rfl rfl (Rd.cell0 (y.own.rd (i := 0) rfl) (getD_some 0 (by omega)) rfl) ?_
                          refine AtL.nei (.inr ⟨_, _, _, rfl, rfl, rfl, rfl⟩) rfl rfl rfl ?_
                          refine AtL.pickT (.inl rfl) rfl rfl rfl ?_
                          exact J _ (by exact ⟨(boolIs (by clear J; first | (simp [hs71]; done) | (simp_all; done) | grind)), rfl, rfl, rfl, rfl, trivial⟩)
                        · intro hs71
                          have hs71 : ¬ (((y.l.getD 0 0).toNat : Int) = 1) := of_decide_eq_false hs71
                          refine AtL.skipped rfl rfl rfl rfl rfl rfl ?_
                          refine AtL.skipped rfl rfl rfl rfl rfl rfl ?_
                          refine AtL.skipped rfl rfl rfl rfl rfl rfl ?_
                          refine AtL.skipped rfl rfl rfl rfl rfl rfl ?_
                          refine AtL.pickF (.inl rfl) rfl rfl rfl ?_
                          exact J _ (by exact ⟨(boolIs (by clear J; first | (simp [hs71]; done) | (simp_all; done) | grind)), rfl, rfl, rfl, rfl, trivial⟩)
                      · skip
                        refine AtL.done ?_
                        refine At.cond rfl ?_ ?_
                        · intro hc7
                          have hc7 : (((y.l.getD 0 0).toNat : Int) = 1) ∧ (¬ (((y.l.getD 3 0).toNat : Int) = 1)) := of_decide_eq_true hc7
                          refine At.seq ?_
                          refine At.region ?_
                          refine AtL.assign (.inl rfl) rfl rfl ?_
                          refine AtL.assign (.inl rfl) rfl rfl ?_
                          refine AtL.assign (.inl rfl) rfl rfl ?_
                          refine AtL.assign (.inl rfl) rfl rfl ?_
                          refine AtL.done ?_
                          have hone : oneF hello y.l = ⟨4, 0, [], hello, false⟩ := by rw [oneF]; grind [subl_len]
                          rw [hone]
                          exact At.ret Try.func30 rfl rfl (⟨none, 0, Rd.nil_, (by first | rfl | simp [oneOf]), rfl⟩)
                        · intro hc7
                          have hc7 : ¬ ((((y.l.getD 0 0).toNat : Int) = 1) ∧ (¬ (((y.l.getD 3 0).toNat : Int) = 1))) := of_decide_eq_false hc7
                          refine At.skip ?_
                          refine At.seq ?_
                          refine At.seq ?_
                          refine At.region ?_
                          refine AtL.move (.inl rfl) rfl rfl ?_
                          refine AtL.eqi (.inl rfl) rfl rfl rfl ?_
                          refine AtL.done ?_
                          refine At.cond rfl ?_ ?_
                          · intro hc8
                            have hc8 : ((y.l.getD 0 0).toNat : Int) = 1 := of_decide_eq_true hc8
                            refine At.seq ?_
                            refine At.region ?_
                            refine AtL.move (.inl rfl) rfl rfl ?_
                            refine AtL.nilCheck (.inl rfl) rfl rfl ?_
                            refine AtL.fieldAddrB tf_fo44_2 (.inl rfl) rfl rfl rfl ?_
                            refine AtL.store (H' := y.s :: [(b, .cells #[.bool true, .slice y.A y.l.length y.C, .bool true, .bool out, .bool false, .bool gr, .bool sh] 44 (0, 0))] :: H) 1 0 tf_sz4 (.inl rfl) rfl rfl rfl rfl rfl rfl rfl rfl rfl ?_
                            refine AtL.done ?_
                            refine At.seq ?_
                            refine At.region ?_
                            refine AtL.assign (.inl rfl) rfl rfl ?_
                            refine AtL.assign (.inl rfl) rfl rfl ?_
                            refine AtL.assign (.inl rfl) rfl rfl ?_
                            refine AtL.assign (.inl rfl) rfl rfl ?_
                            refine AtL.done ?_
                            have hone : oneF hello y.l = ⟨0, 4, [], true, false⟩ := by rw [oneF]; grind [subl_len]
                            rw [hone]
                            exact At.ret Try.func30 rfl rfl (⟨none, 0, Rd.nil_, (by first | rfl | simp [oneOf]), rfl⟩)
                          · intro hc8
                            have hc8 : ¬ (((y.l.getD 0 0).toNat : Int) = 1) := of_decide_eq_false hc8
                            refine At.skip ?_
                            refine At.seq ?_
                            refine At.seq ?_
                            refine At.region ?_
                            refine AtL.move (.inl rfl) rfl rfl ?_
                            refine AtL.eqi (.inl rfl) rfl rfl rfl ?_
                            refine AtL.done ?_
                            refine At.cond rfl ?_ ?_
                            · intro hc9
                              have hc9 : ((y.l.getD 0 0).toNat : Int) = 3 := of_decide_eq_true hc9
                              refine At.seq ?_
                              refine At.region ?_
                              refine AtL.move (.inl rfl) rfl rfl ?_
                              refine AtL.nilCheck (.inl rfl) rfl rfl ?_
                              refine AtL.fieldAddrB tf_fo44_4 (.inl rfl) rfl rfl rfl ?_
                              refine AtL.store (H' := y.s :: [(b, .cells #[.bool true, .slice y.A y.l.length y.C, .bool hello, .bool out, .bool true, .bool gr, .bool sh] 44 (0, 0))] :: H) 1 0 tf_sz4 (.inl rfl) rfl rfl rfl rfl rfl rfl rfl rfl rfl ?_
                              refine AtL.done ?_
                              refine At.seq ?_
                              refine At.region ?_
                              refine AtL.assign (.inl rfl) rfl rfl ?_
                              refine AtL.assign (.inl rfl) rfl rfl ?_
                              refine AtL.assign (.inl rfl) rfl rfl ?_
                              refine AtL.assign (.inl rfl) rfl rfl ?_
                              refine AtL.done ?_
                              have hone : oneF hello y.l = ⟨0, 3, [], hello, true⟩ := by rw [oneF]; grind [subl_len]
                              rw [hone]
                              exact At.ret Try.func30 rfl rfl (⟨none, 0, Rd.nil_, (by first | rfl | simp [oneOf]), rfl⟩)
                            · intro hc9
                              have hc9 : ¬ (((y.l.getD 0 0).toNat : Int) = 3) := of_decide_eq_false hc9
                              refine At.skip ?_
                              refine At.seq ?_
                              refine At.region ?_
                              refine AtL.move (.inl rfl) rfl rfl ?_
                              refine AtL.move (.inl rfl) rfl rfl ?_
                              refine AtL.add (z := 3 + ((256 * ((y.l.getD 1 0).toNat : Int)) + ((y.l.getD 2 0).toNat : Int))) (.inl rfl) rfl rfl rfl (w64 (by omega) (by omega)) ?_
                              have hleo6 := Own.le_cap y.own
                              refine AtL.sliceO 3 (3 + ((256 * ((y.l.getD 1 0).toNat)) + ((y.l.getD 2 0).toNat))) y.C y.own (evBound_some rfl rfl) (evBound_some rfl rfl) rfl (by intro h; cases h) (by omega) (by omega) (by omega) (Nat.le_refl _) Try.underlying22 tf_sz5 (.inl rfl) rfl rfl ?_
                              intro A4 C5 o6
                              clear hleo6
                              have hlo6 : (subl y.l 3 (3 + ((256 * ((y.l.getD 1 0).toNat)) + ((y.l.getD 2 0).toNat)))).length = (3 + ((256 * ((y.l.getD 1 0).toNat)) + ((y.l.getD 2 0).toNat))) - 3 := subl_len (by omega)
                              refine AtL.move (.inl rfl) rfl rfl ?_
                              refine AtL.add (z := 3 + ((256 * ((y.l.getD 1 0).toNat : Int)) + ((y.l.getD 2 0).toNat : Int))) (.inl rfl) rfl rfl rfl (w64 (by omega) (by omega)) ?_
                              refine AtL.assign (.inl rfl) rfl rfl ?_
                              refine AtL.assign (.inl rfl) rfl rfl ?_
                              refine AtL.assign (.inl rfl) rfl rfl ?_
                              refine AtL.assign (.inl rfl) rfl rfl ?_
                              refine AtL.done ?_
                              have hone : oneF hello y.l = ⟨0, 3 + ((256 * ((y.l.getD 1 0).toNat)) + ((y.l.getD 2 0).toNat)), subl y.l 3 (3 + ((256 * ((y.l.getD 1 0).toNat)) + ((y.l.getD 2 0).toNat))), hello, false⟩ := by rw [oneF]; grind [subl_len]
                              rw [hone]
                              exact At.ret Try.func30 rfl rfl (⟨A4, C5, (o6.rd (i := 0) rfl), (by first | rfl | simp [oneOf]), rfl⟩)

theorem oneF_off {h : Bool} {l : List UInt8} (he : (oneF h l).n = 0) : (oneF h l).off = false := by
  revert he
  unfold oneF
  repeat' split
  all_goals simp

set_option maxHeartbeats 1000000 in
theorem rpush_ok {w0 : World} {base : Nat} {H : List Seg} {b : Nat} {y : Sl tyB 5} {hello off out gr sh : Bool} {A : Option Addr} {C : Nat} {l : List UInt8} (h : Rd tyB w0 base H A C l) (hl : y.l.length + l.length ≤ 140737488355000) :
    SCalls Try.prog 24 [.pointer (some ⟨b, 0, none⟩), .slice A l.length C] w0 base (y.s :: [(b, .cells #[.bool true, .slice y.A y.l.length y.C, .bool hello, .bool out, .bool off, .bool gr, .bool sh] 44 (0, 0))] :: H) (fun v H' => ∃ x z : Sl tyB 5, x.l = (pushS hello off out y.l l).out ∧ z.l = (pushS hello off out y.l l).rest ∧ v = .tuple #[.slice x.A x.l.length x.C, int (pushS hello off out y.l l).e] ∧ H' = x.s :: z.s :: [(b, .cells #[.bool true, .slice z.A z.l.length z.C, .bool ((pushS hello off out y.l l).h), .bool (brokeS hello off out y.l l), .bool ((pushS hello off out y.l l).off), .bool gr, .bool sh] 44 (0, 0))] :: H) := by
  refine SCalls.of_walk (n := 81) Try.func24 rfl rfl rfl fun cs => ?_
  refine At.seq ?_
  refine At.region ?_
  refine AtL.assign (.inl rfl) rfl rfl ?_
  refine AtL.assign (.inl rfl) rfl rfl ?_
  refine AtL.done ?_
  refine At.seq ?_
  refine At.seq ?_
  refine At.region ?_
  refine AtL.move (.inl rfl) rfl rfl ?_
  refine AtL.nilCheck (.inl rfl) rfl rfl ?_
  refine AtL.fieldAddrB tf_fo44_3 (.inl rfl) rfl rfl rfl ?_
  refine AtL.load tf_flat4 (.inl rfl) rfl rfl (Cell.own 1 0 rfl rfl rfl) ?_
  refine AtL.move (.inl rfl) rfl rfl ?_
  refine AtL.join 5 (E' := [(20, .bool (decide ((out = true) ∨ (off = true)))), (0, .pointer (some ⟨b, 0, none⟩)), (1, .slice A l.length C)]) (H' := y.s :: [(b, .cells #[.bool true, .slice y.A y.l.length y.C, .bool hello, .bool out, .bool off, .bool gr, .bool sh] 44 (0, 0))] :: H) (fun J => ?_) ?_
  · refine AtL.split (t := 15) rfl ?_ ?_
    · intro hs15
      have hs15 : out = true := hs15
      refine AtL.skipped rfl rfl rfl rfl rfl rfl ?_
      refine AtL.skipped rfl rfl rfl rfl rfl rfl ?_
      refine AtL.skipped rfl rfl rfl rfl rfl rfl ?_
      refine AtL.skipped rfl rfl rfl rfl rfl rfl ?_
      refine AtL.pickT (.inl rfl) rfl rfl rfl ?_
      exact J _ (by exact ⟨(boolIs (by clear J; first | (simp [hs15]; done) | (simp_all; done) | grind)), rfl, rfl, trivial⟩)
    · intro hs15
      have hs15 : out = false := hs15
      refine AtL.move (.inr ⟨_, _, _, rfl, rfl, rfl, rfl⟩) rfl rfl ?_
      refine AtL.nilCheck (.inr ⟨_, _, _, rfl, rfl, rfl, rfl⟩) rfl rfl ?_
      refine AtL.fieldAddrB tf_fo44_4 (.inr ⟨_, _, _, rfl, rfl, rfl, rfl⟩) rfl rfl rfl ?_
      refine AtL.load tf_flat4 (.inr ⟨_, _, _, rfl, rfl, rfl, rfl⟩) rfl rfl (Cell.own 1 0 rfl rfl rfl) ?_
      refine AtL.pickF (.inl rfl) rfl rfl rfl ?_
      exact J _ (by exact ⟨(boolIs (by clear J; first | (simp [hs15]; done) | (simp_all; done) | grind)), rfl, rfl, trivial⟩)
  · skip
    refine AtL.done ?_
    refine At.cond rfl ?_ ?_
    · intro hc1
      have hc1 : (out = true) ∨ (off = true) := of_decide_eq_true hc1
      refine At.seq ?_
      refine At.region ?_
      refine AtL.assign (.inl rfl) rfl rfl ?_
      refine AtL.assign (.inl rfl) rfl rfl ?_
      refine AtL.done ?_
      refine At.nil ?_
      have hp : pushS hello off out y.l l = ⟨[], 9, y.l, hello, off⟩ := by rw [pushS, if_pos hc1]
      have hq : brokeS hello off out y.l l = out := by rw [brokeS, if_pos hc1]
      rw [hp, hq]
      exact At.ret Try.func24 rfl rfl (⟨Sl.nil, y, rfl, rfl, rfl, rfl⟩)
    · intro hc1
      have hc1 : ¬ ((out = true) ∨ (off = true)) := of_decide_eq_false hc1
      refine At.skip ?_
      refine At.seq ?_
      refine At.seq ?_
      refine At.region ?_
      refine AtL.move (.inl rfl) rfl rfl ?_
      refine AtL.nilCheck (.inl rfl) rfl rfl ?_
      refine AtL.fieldAddrB tf_fo44_0 (.inl rfl) rfl rfl rfl ?_
      refine AtL.load tf_flat4 (.inl rfl) rfl rfl (Cell.own 1 0 rfl rfl rfl) ?_
      refine AtL.not (.inl rfl) rfl rfl ?_
      refine AtL.done ?_
      refine At.condF rfl ?_
      refine At.skip ?_
      refine At.seq ?_
      refine At.region ?_
      refine AtL.move (.inl rfl) rfl rfl ?_
      refine AtL.buildSlice (cs := []) Try.underlying22 tf_zero5 tf_sz5 rfl rfl (.inl rfl) rfl rfl rfl ?_
      intro b1
      refine AtL.own1 tyB (l := ([] : List UInt8)) rfl rfl (by first | decide | simp) ?_
      intro s2 o3
      refine AtL.move (.inl rfl) rfl rfl ?_
      refine AtL.nilCheck (.inl rfl) rfl rfl ?_
      refine AtL.fieldAddrB tf_fo44_1 (.inl rfl) rfl rfl rfl ?_
      refine AtL.load tf_flat22 (.inl rfl) rfl rfl (Cell.own 2 0 rfl rfl rfl) ?_
      refine AtL.append (l := []) (news := y.l) 0 tf_el22 rfl o3 (y.own.rd (i := 1) rfl) (by first | omega | (simp only [List.length_append, List.length_cons, List.length_nil]; omega) | (simp; done) | (simp; omega)) (.inl rfl) rfl rfl rfl ?_
      intro A4 C5 s6 o7
      refine AtL.move (.inl rfl) rfl rfl ?_
      refine AtL.append (l := [] ++ y.l) (news := l) 0 tf_el22 rfl o7 (Rd.skip 3 h) (by first | omega | (simp only [List.length_append, List.length_cons, List.length_nil]; omega) | (simp; done) | (simp; omega)) (.inl rfl) rfl rfl rfl ?_
      intro A8 C9 s10 o11
      refine AtL.nilCheck (.inl rfl) rfl rfl ?_
      refine AtL.fieldAddrB tf_fo44_1 (.inl rfl) rfl rfl rfl ?_
      refine AtL.store (H' := s10 :: y.s :: [(b, .cells #[.bool true, .slice A8 (([] ++ y.l) ++ l).length C9, .bool hello, .bool out, .bool off, .bool gr, .bool sh] 44 (0, 0))] :: H) 2 0 tf_sz22 (.inl rfl) rfl rfl rfl rfl rfl rfl rfl rfl rfl ?_
      refine AtL.done ?_
      refine At.seq ?_
      refine At.region ?_
      refine AtL.assign (.inl rfl) rfl rfl ?_
      refine AtL.done ?_
      refine At.seq ?_
      refine At.block ?_
      obtain ⟨rfl, rfl⟩ : off = false ∧ out = false := by simpa [and_comm] using hc1
      refine At.nil ?_
      refine At.pick (H' := [] :: s10 :: [(b, .cells #[.bool true, .slice A8 (([] ++ y.l) ++ l).length C9, .bool hello, .bool false, .bool false, .bool gr, .bool sh] 44 (0, 0))] :: H) [0, 1, 3] 4 rfl rfl ?_
      refine At.loop4 (fun (x : Sl tyB 5) (z : Sl tyB 5) (hh : Bool) (oo : Bool) => [(0, .pointer (some ⟨b, 0, none⟩)), (6, .slice x.A x.l.length x.C)]) (fun (x : Sl tyB 5) (z : Sl tyB 5) (hh : Bool) (oo : Bool) => x.s :: z.s :: [(b, .cells #[.bool true, .slice z.A z.l.length z.C, .bool hh, .bool false, .bool oo, .bool gr, .bool sh] 44 (0, 0))] :: H) (fun (x : Sl tyB 5) (z : Sl tyB 5) (hh : Bool) (oo : Bool) => (oo = false → told x.l hh z.l = pushF hello (y.l ++ l)) ∧ (oo = true → pushF hello (y.l ++ l) = ⟨x.l, 0, [], hh, true⟩) ∧ x.l.length + z.l.length ≤ y.l.length + l.length) (fun (x : Sl tyB 5) (z : Sl tyB 5) (hh : Bool) (oo : Bool) => 2 * z.l.length + (if oo then 0 else 1)) Sl.nil (⟨A8, C9, ([] ++ y.l) ++ l, s10, o11⟩) hello false (⟨fun _ => rfl, (fun h => by cases h), by simp [Sl.nil]⟩) ⟨rfl, rfl, trivial⟩ rfl ?_
      rintro x z hh oo ⟨hI, hO, hlen⟩ ihL1
      have hn := oneF_n hh z.l
      refine At.seq ?_
      refine At.seq ?_
      refine At.region ?_
      refine AtL.move (.inl rfl) rfl rfl ?_
      refine AtL.nilCheck (.inl rfl) rfl rfl ?_
      refine AtL.fieldAddrB tf_fo44_4 (.inl rfl) rfl rfl rfl ?_
      refine AtL.load tf_flat4 (.inl rfl) rfl rfl (Cell.own 2 0 rfl rfl rfl) ?_
      refine AtL.not (.inl rfl) rfl rfl ?_
      refine AtL.done ?_
      refine At.cond rfl ?_ ?_
      · intro hc3
        have hc3 : oo = false := bnot_true hc3
        rw [hc3]
        refine At.skip ?_
        refine At.block ?_
        refine At.seq ?_
        refine At.region ?_
        refine AtL.move (.inl rfl) rfl rfl ?_
        refine AtL.pick (H' := z.s :: [(b, .cells #[.bool true, .slice z.A z.l.length z.C, .bool hh, .bool false, .bool false, .bool gr, .bool sh] 44 (0, 0))] :: x.s :: H) [1, 2, 0] 3 rfl rfl ?_
        refine AtL.call tf_body30 (.inl rfl) rfl rfl (rone_ok (y := z) (by omega)) ?_
        rintro _ _ ⟨A12, C13, q14, rfl, rfl⟩
        refine AtL.move (.inl rfl) rfl rfl ?_
        refine AtL.extract (.inl rfl) rfl rfl rfl ?_
        refine AtL.extract (.inl rfl) rfl rfl rfl ?_
        refine AtL.extract (.inl rfl) rfl rfl rfl ?_
        refine AtL.extract (.inl rfl) rfl rfl rfl ?_
        refine AtL.assign (.inl rfl) rfl rfl ?_
        refine AtL.assign (.inl rfl) rfl rfl ?_
        refine AtL.assign (.inl rfl) rfl rfl ?_
        refine AtL.assign (.inl rfl) rfl rfl ?_
        refine AtL.done ?_
        refine At.seq ?_
        refine At.seq ?_
        refine At.region ?_
        refine AtL.move (.inl rfl) rfl rfl ?_
        refine AtL.nei (.inl rfl) rfl rfl rfl ?_
        refine AtL.done ?_
        refine At.cond rfl ?_ ?_
        · intro hc4
          have hc4 : ¬ (((oneF hh z.l).e : Int) = 0) := of_decide_eq_false (bnot_true hc4)
          refine At.seq ?_
          refine At.region ?_
          refine AtL.move (.inl rfl) rfl rfl ?_
          refine AtL.nilCheck (.inl rfl) rfl rfl ?_
          refine AtL.fieldAddrB tf_fo44_3 (.inl rfl) rfl rfl rfl ?_
          refine AtL.store (H' := z.s :: [(b, .cells #[.bool true, .slice z.A z.l.length z.C, .bool ((oneF hh z.l).h), .bool true, .bool ((oneF hh z.l).off), .bool gr, .bool sh] 44 (0, 0))] :: x.s :: H) 1 0 tf_sz4 (.inl rfl) rfl rfl rfl rfl rfl rfl rfl rfl rfl ?_
          refine AtL.done ?_
          refine At.seq ?_
          refine At.region ?_
          refine AtL.move (.inl rfl) rfl rfl ?_
          refine AtL.nilCheck (.inl rfl) rfl rfl ?_
          refine AtL.fieldAddrB tf_fo44_1 (.inl rfl) rfl rfl rfl ?_
          refine AtL.store (H' := z.s :: [(b, .cells #[.bool true, .slice none 0 0, .bool ((oneF hh z.l).h), .bool true, .bool ((oneF hh z.l).off), .bool gr, .bool sh] 44 (0, 0))] :: x.s :: H) 1 0 tf_sz22 (.inl rfl) rfl rfl rfl rfl rfl rfl rfl rfl rfl ?_
          refine AtL.done ?_
          refine At.seq ?_
          refine At.region ?_
          refine AtL.move (.inl rfl) rfl rfl ?_
          refine AtL.move (.inl rfl) rfl rfl ?_
          refine AtL.assign (.inl rfl) rfl rfl ?_
          refine AtL.assign (.inl rfl) rfl rfl ?_
          refine AtL.done ?_
          refine At.nil ?_
          refine At.pick (H' := x.s :: [] :: [(b, .cells #[.bool true, .slice none 0 0, .bool ((oneF hh z.l).h), .bool true, .bool ((oneF hh z.l).off), .bool gr, .bool sh] 44 (0, 0))] :: H) [3, 0, 2] 4 rfl rfl ?_
          have hp : pushS hello false false y.l l = pushF hello (y.l ++ l) := by rw [pushS, if_neg (by simp)]
          have hq : brokeS hello false false y.l l = decide ((pushF hello (y.l ++ l)).e ≠ 0) := by rw [brokeS, if_neg (by simp)]
          rw [hp, hq, ← hI hc3, told_err hc4]
          exact At.ret Try.func24 rfl rfl (⟨x, Sl.nil, rfl, rfl, rfl, by simp only [ne_eq, hc4, not_false_eq_true, decide_true, oneF_h hc4]; rfl⟩)
        · intro hc4
          have hc4 : ((oneF hh z.l).e : Int) = 0 := of_decide_eq_true (bnot_false hc4)
          refine At.skip ?_
          refine At.seq ?_
          refine At.seq ?_
          refine At.region ?_
          refine AtL.move (.inl rfl) rfl rfl ?_
          refine AtL.not (.inl rfl) rfl rfl ?_
          refine AtL.done ?_
          refine At.cond rfl ?_ ?_
          · intro hc5
            have hc5 : ¬ ((oneF hh z.l).e = 0 ∧ (oneF hh z.l).n ≠ 0) := of_decide_eq_false (bnot_true hc5)
            refine At.seq ?_
            refine At.region ?_
            refine AtL.move (.inl rfl) rfl rfl ?_
            refine AtL.assign (.inl rfl) rfl rfl ?_
            refine AtL.assign (.inl rfl) rfl rfl ?_
            refine AtL.done ?_
            refine At.pick (H' := x.s :: z.s :: [(b, .cells #[.bool true, .slice z.A z.l.length z.C, .bool ((oneF hh z.l).h), .bool false, .bool ((oneF hh z.l).off), .bool gr, .bool sh] 44 (0, 0))] :: H) [2, 0, 1] 3 rfl rfl ?_
            have hp : pushS hello false false y.l l = pushF hello (y.l ++ l) := by rw [pushS, if_neg (by simp)]
            have hq : brokeS hello false false y.l l = decide ((pushF hello (y.l ++ l)).e ≠ 0) := by rw [brokeS, if_neg (by simp)]
            have h4 : (oneF hh z.l).e = 0 := by omega
            have hn0 : (oneF hh z.l).n = 0 := by simpa [h4] using hc5
            have ho : (oneF hh z.l).off = false := oneF_off hn0
            rw [hp, hq, ← hI hc3, told_none (by omega) ho hn0]
            exact At.ret Try.func24 rfl rfl (⟨x, z, rfl, rfl, rfl, by rw [ho]; rfl⟩)
          · intro hc5
            have hc5 : (oneF hh z.l).e = 0 ∧ (oneF hh z.l).n ≠ 0 := of_decide_eq_true (bnot_false hc5)
            have h4 : (oneF hh z.l).e = 0 := by omega
            have hz : (oneF hh z.l).n ≠ 0 := by simpa [h4] using hc5
            refine At.skip ?_
            refine At.seq ?_
            refine At.region ?_
            refine AtL.move (.inl rfl) rfl rfl ?_
            refine AtL.move (.inl rfl) rfl rfl ?_
            refine AtL.append (l := x.l) (news := (oneF hh z.l).x) 2 tf_el22 rfl x.own q14 (by first | omega | (simp only [List.length_append, List.length_cons, List.length_nil]; omega) | (simp; done) | (simp; omega)) (.inl rfl) rfl rfl rfl ?_
            intro A15 C16 s17 o18
            refine AtL.assign (.inl rfl) rfl rfl ?_
            refine AtL.done ?_
            refine At.region ?_
            refine AtL.move (.inl rfl) rfl rfl ?_
            refine AtL.move (.inl rfl) rfl rfl ?_
            refine AtL.nilCheck (.inl rfl) rfl rfl ?_
            refine AtL.fieldAddrB tf_fo44_1 (.inl rfl) rfl rfl rfl ?_
            refine AtL.load tf_flat22 (.inl rfl) rfl rfl (Cell.own 1 0 rfl rfl rfl) ?_
            refine AtL.move (.inl rfl) rfl rfl ?_
            have hleo21 := Own.le_cap z.own
            refine AtL.sliceO ((oneF hh z.l).n) z.l.length z.C z.own (evBound_some rfl rfl) rfl rfl (by intro h; cases h) (by omega) (by omega) (by omega) (Nat.le_refl _) Try.underlying22 tf_sz5 (.inl rfl) rfl rfl ?_
            intro A19 C20 o21
            clear hleo21
            have hlo21 : (subl z.l ((oneF hh z.l).n) z.l.length).length = z.l.length - ((oneF hh z.l).n) := subl_len (by omega)
            refine AtL.nilCheck (.inl rfl) rfl rfl ?_
            refine AtL.fieldAddrB tf_fo44_1 (.inl rfl) rfl rfl rfl ?_
            refine AtL.store (H' := z.s :: [(b, .cells #[.bool true, .slice A19 (subl z.l ((oneF hh z.l).n) z.l.length).length C20, .bool ((oneF hh z.l).h), .bool false, .bool ((oneF hh z.l).off), .bool gr, .bool sh] 44 (0, 0))] :: s17 :: H) 1 0 tf_sz22 (.inl rfl) rfl rfl rfl rfl rfl rfl rfl rfl rfl ?_
            refine AtL.done ?_
            refine At.inBlock ?_
            refine At.pick (H' := s17 :: z.s :: [(b, .cells #[.bool true, .slice A19 (subl z.l ((oneF hh z.l).n) z.l.length).length C20, .bool ((oneF hh z.l).h), .bool false, .bool ((oneF hh z.l).off), .bool gr, .bool sh] 44 (0, 0))] :: H) [2, 0, 1] 3 rfl rfl ?_
            exact ihL1 (⟨A15, C16, x.l ++ ((oneF hh z.l).x), s17, o18⟩) (⟨A19, C20, subl z.l ((oneF hh z.l).n) z.l.length, z.s, o21⟩) ((oneF hh z.l).h) ((oneF hh z.l).off) (⟨fun ho => by rw [← hI hc3, told_more hc4 ho (by omega)]; congr 1; exact subl_drop _ _, fun ho => by rw [← hI hc3, told_off (by omega) ho], by simp [subl_drop]; omega⟩) (by simp only [subl_drop, List.length_drop, hc3]; split <;> simp <;> omega) _ (by exact ⟨rfl, (by first | rfl | exact slLen (by simp []) | exact intEq (by omega) | exact intEq (by simp []) | exact slLen (by simp []; omega)), trivial⟩)
      · intro hc3
        have hc3 : oo = true := bnot_false hc3
        refine At.exit rfl ?_
        refine At.seq ?_
        refine At.region ?_
        refine AtL.move (.inl rfl) rfl rfl ?_
        refine AtL.nilCheck (.inl rfl) rfl rfl ?_
        refine AtL.fieldAddrB tf_fo44_1 (.inl rfl) rfl rfl rfl ?_
        refine AtL.store (H' := x.s :: z.s :: [(b, .cells #[.bool true, .slice none 0 0, .bool hh, .bool false, .bool oo, .bool gr, .bool sh] 44 (0, 0))] :: H) 2 0 tf_sz22 (.inl rfl) rfl rfl rfl rfl rfl rfl rfl rfl rfl ?_
        refine AtL.done ?_
        refine At.seq ?_
        refine At.region ?_
        refine AtL.move (.inl rfl) rfl rfl ?_
        refine AtL.assign (.inl rfl) rfl rfl ?_
        refine AtL.assign (.inl rfl) rfl rfl ?_
        refine AtL.done ?_
        refine At.nil ?_
        refine At.pick (H' := x.s :: [] :: [(b, .cells #[.bool true, .slice none 0 0, .bool hh, .bool false, .bool oo, .bool gr, .bool sh] 44 (0, 0))] :: H) [1, 0, 3] 4 rfl rfl ?_
        have hp : pushS hello false false y.l l = pushF hello (y.l ++ l) := by rw [pushS, if_neg (by simp)]
        have hq : brokeS hello false false y.l l = decide ((pushF hello (y.l ++ l)).e ≠ 0) := by rw [brokeS, if_neg (by simp)]
        rw [hp, hq, hO hc3]
        exact At.ret Try.func24 rfl rfl (⟨x, Sl.nil, rfl, rfl, rfl, by rw [hc3]; rfl⟩)

end Go.Proofs.Ytllfgcekebafhaa
