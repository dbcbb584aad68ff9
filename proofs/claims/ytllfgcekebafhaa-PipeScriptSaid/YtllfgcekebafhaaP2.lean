/- The contracts of a sealed channel: one record, and what comes in. -/
import Derived.Test.YtllfgcekebafhaaP1
namespace Go.Proofs.Ytllfgcekebafhaa
set_option linter.unusedVariables false
set_option linter.unusedSimpArgs false
set_option maxRecDepth 100000

set_option maxHeartbeats 400000 in
theorem kind_ok {w0 : World} {base : Nat} {H : List Seg} {A : Option Addr} {C : Nat} {l : List UInt8} (h : Rd tyB w0 base H A C l) (hl : 0 < l.length) :
    SCalls Try.prog 60 [.slice A l.length C] w0 base (H) (fun v H' => v = int (l.getD 0 0).toNat ∧ H' = H) := by
  refine SCalls.of_walk (n := 7) Try.func60 rfl rfl rfl fun cs => ?_
  refine At.seq ?_
  refine At.region ?_
  refine AtL.assign (.inl rfl) rfl rfl ?_
  refine AtL.done ?_
  refine At.seq ?_
  refine At.region ?_
  refine AtL.move (.inl rfl) rfl rfl ?_
  refine AtL.indexL 0 h Try.underlying59 tf_sz5 (.inl rfl) rfl rfl rfl rfl (by omega) ?_
  refine AtL.load (v := .int .u8 ((l.getD 0 0).toNat : Int)) tf_flat5 (.inl rfl) rfl rfl (Rd.cell0 h (getD_some 0 (by omega)) rfl) ?_
  have hB1 := u8_le ((l.getD 0 0))
  refine AtL.convInt (z := ((l.getD 0 0).toNat : Int)) Try.underlying5 Try.underlying3 (.inl rfl) rfl rfl (u8_i64 _) ?_
  refine AtL.assign (.inl rfl) rfl rfl ?_
  refine AtL.done ?_
  exact At.ret Try.func60 rfl rfl (⟨rfl, rfl⟩)

theorem size_is (l : List UInt8) : decide ((get16F l 1).2.2.1 = 0) = decide (3 ≤ l.length) := by
  unfold get16F
  by_cases h : l.length < 1 + 2
  · rw [if_pos h, decide_eq_false (show ¬ 3 ≤ l.length by omega)]
    by_cases h2 : l.length < 1 <;> simp [h2]
  · rw [if_neg h, decide_eq_true (show 3 ≤ l.length by omega)]
    simp
theorem size_n (l : List UInt8) : (get16F l 1).1 = ((if 3 ≤ l.length then 256 * (l.getD 1 0).toNat + (l.getD 2 0).toNat else 0 : Nat) : Int) := by
  unfold get16F
  by_cases h : l.length < 1 + 2
  · rw [if_pos h, if_neg (show ¬ 3 ≤ l.length by omega)]; rfl
  · rw [if_neg h, if_pos (show 3 ≤ l.length by omega)]; simp

set_option maxHeartbeats 400000 in
theorem size_ok {w0 : World} {base : Nat} {H : List Seg} {A : Option Addr} {C : Nat} {l : List UInt8} (h : Rd tyB w0 base H A C l) (hl : l.length ≤ 140737488355000) :
    SCalls Try.prog 61 [.slice A l.length C] w0 base (H) (fun v H' => ∃ n : Nat, ∃ z : Bool, z = decide (3 ≤ l.length) ∧ n = (if 3 ≤ l.length then 256 * (l.getD 1 0).toNat + (l.getD 2 0).toNat else 0) ∧ v = .tuple #[int (n : Int), .bool z] ∧ H' = H) := by
  refine SCalls.of_walk (n := 17) Try.func61 rfl rfl rfl fun cs => ?_
  refine At.seq ?_
  refine At.region ?_
  refine AtL.assign (.inl rfl) rfl rfl ?_
  refine AtL.assign (.inl rfl) rfl rfl ?_
  refine AtL.done ?_
  refine At.seq ?_
  refine At.region ?_
  refine AtL.move (.inl rfl) rfl rfl ?_
  refine AtL.call tf_body63 (.inl rfl) rfl rfl (get16_ok (l := l) h 1 (by omega) (by omega)) ?_
  rintro _ _ ⟨rfl, hHq⟩
  obtain rfl := hHq.symm
  refine AtL.move (.inl rfl) rfl rfl ?_
  refine AtL.extract (.inl rfl) rfl rfl rfl ?_
  refine AtL.extract (.inl rfl) rfl rfl rfl ?_
  refine AtL.extract (.inl rfl) rfl rfl rfl ?_
  refine AtL.alloc tf_zero94 (cs := #[.int .i64 0, .int .i64 0]) rfl (.inl rfl) rfl ?_
  intro b1
  refine AtL.assign (.inl rfl) rfl rfl ?_
  refine AtL.assign (.inl rfl) rfl rfl ?_
  refine AtL.store (H' := [(b1, .cells #[.int .i64 ((get16F l 1).2.2.1), .int .i64 ((get16F l 1).2.2.2)] 94 (0, 0))] :: H) 0 0 tf_sz94 (.inl rfl) rfl rfl rfl rfl rfl rfl rfl rfl rfl ?_
  refine AtL.done ?_
  refine At.seq ?_
  refine At.draw (es := []) (pv := [(0, .int .i64 ((get16F l 1).1)), (1, .pointer (some ⟨b1, 0, none⟩)), (2, .int .i64 ((get16F l 1).2.2.1)), (3, .bool (decide (((get16F l 1).2.2.1 : Int) = 0))), (4, .int .i64 ((get16F l 1).1)), (5, .bool (decide (((get16F l 1).2.2.1 : Int) = 0)))]) tf_mixed (by kernel_rfl) (by kernel_rfl) (by kernel_rfl) ?_
  refine ⟨⟨.inr ⟨_, rfl, rfl, .inl ⟨rfl, Do.move rfl⟩⟩, .inr ⟨_, rfl, rfl, .inl ⟨rfl, Do.fieldAddrB tf_fo94_0 rfl rfl⟩⟩, .inr ⟨_, rfl, rfl, .inl ⟨rfl, Do.load tf_flat25 rfl (Cell.own 0 0 rfl rfl rfl)⟩⟩, .inr ⟨_, rfl, rfl, .inl ⟨rfl, Do.eqi rfl rfl⟩⟩, .inr ⟨_, rfl, rfl, .inl ⟨rfl, Do.assign rfl⟩⟩, .inr ⟨_, rfl, rfl, .inl ⟨rfl, Do.assign rfl⟩⟩, trivial⟩, by kernel_rfl, ?_⟩
  refine At.mono (E' := [(2, .int .i64 ((get16F l 1).1)), (3, .bool (decide (((get16F l 1).2.2.1 : Int) = 0)))]) ⟨rfl, rfl, trivial⟩ ?_
  refine At.pick (H' := H) [] 1 rfl rfl ?_
  exact At.ret Try.func61 rfl rfl (⟨_, _, rfl, rfl, by rw [size_is, size_n]; rfl, rfl⟩)

set_option maxHeartbeats 400000 in
theorem one_ok {w0 : World} {base : Nat} {H : List Seg} {b : Nat} {y : Sl tyB 5} {hello out gr sh : Bool} (hl : y.l.length ≤ 140737488355000) :
    SCalls Try.prog 57 [.pointer (some ⟨b, 0, none⟩)] w0 base (y.s :: [(b, .cells #[.slice y.A y.l.length y.C, .bool hello, .bool false, .bool out, .bool gr, .bool sh] 61 (0, 0))] :: H) (fun v H' => ∃ A' C', Rd tyB w0 base H' A' C' (oneF hello y.l).x ∧ v = .tuple #[.slice A' (oneF hello y.l).x.length C', int (oneF hello y.l).n, int (oneF hello y.l).e] ∧ H' = y.s :: [(b, .cells #[.slice y.A y.l.length y.C, .bool ((oneF hello y.l).h), .bool ((oneF hello y.l).off), .bool out, .bool gr, .bool sh] 61 (0, 0))] :: H) := by
  refine SCalls.of_walk (n := 95) Try.func57 rfl rfl rfl fun cs => ?_
  refine At.seq ?_
  refine At.region ?_
  refine AtL.assign (.inl rfl) rfl rfl ?_
  refine AtL.assign (.inl rfl) rfl rfl ?_
  refine AtL.assign (.inl rfl) rfl rfl ?_
  refine AtL.done ?_
  refine At.seq ?_
  refine At.seq ?_
  refine At.region ?_
  refine AtL.move (.inl rfl) rfl rfl ?_
  refine AtL.nilCheck (.inl rfl) rfl rfl ?_
  refine AtL.fieldAddrB tf_fo61_0 (.inl rfl) rfl rfl rfl ?_
  refine AtL.load tf_flat59 (.inl rfl) rfl rfl (Cell.own 1 0 rfl rfl rfl) ?_
  refine AtL.lenL Try.underlying59 (.inl rfl) rfl rfl ?_
  refine AtL.eqi (.inl rfl) rfl rfl rfl ?_
  refine AtL.done ?_
  refine At.cond rfl ?_ ?_
  · intro hc1
    have hc1 : (y.l.length : Int) = 0 := of_decide_eq_true hc1
    refine At.seq ?_
    refine At.region ?_
    refine AtL.assign (.inl rfl) rfl rfl ?_
    refine AtL.assign (.inl rfl) rfl rfl ?_
    refine AtL.assign (.inl rfl) rfl rfl ?_
    refine AtL.done ?_
    exact At.ret Try.func57 rfl rfl (⟨none, 0, by rw [show (oneF hello y.l).x = [] from by grind [oneF]]; exact Rd.nil_, by grind [oneF, oneOf], by grind [oneF]⟩)
  · intro hc1
    have hc1 : ¬ ((y.l.length : Int) = 0) := of_decide_eq_false hc1
    refine At.skip ?_
    refine At.seq ?_
    refine At.region ?_
    refine AtL.move (.inl rfl) rfl rfl ?_
    refine AtL.nilCheck (.inl rfl) rfl rfl ?_
    refine AtL.fieldAddrB tf_fo61_0 (.inl rfl) rfl rfl rfl ?_
    refine AtL.load tf_flat59 (.inl rfl) rfl rfl (Cell.own 1 0 rfl rfl rfl) ?_
    refine AtL.call tf_body60 (.inl rfl) rfl rfl (kind_ok (l := y.l) (y.own.rd (i := 0) rfl) (by omega)) ?_
    rintro _ _ ⟨rfl, rfl⟩
    refine AtL.assign (.inl rfl) rfl rfl ?_
    refine AtL.done ?_
    refine At.seq ?_
    refine At.seq ?_
    refine At.region ?_
    refine AtL.move (.inl rfl) rfl rfl ?_
    refine AtL.lss (.inl rfl) rfl rfl rfl ?_
    refine AtL.move (.inl rfl) rfl rfl ?_
    refine AtL.join 3 (E' := [(24, .bool (decide ((((y.l.getD 0 0).toNat : Int) < 1) ∨ (3 < ((y.l.getD 0 0).toNat : Int))))), (0, .pointer (some ⟨b, 0, none⟩)), (5, .int .i64 ((y.l.getD 0 0).toNat : Int))]) (H' := y.s :: [(b, .cells #[.slice y.A y.l.length y.C, .bool hello, .bool false, .bool out, .bool gr, .bool sh] 61 (0, 0))] :: H) (fun J => ?_) ?_
    · refine AtL.split (t := 21) rfl ?_ ?_
      · intro hs21
        have hs21 : ((y.l.getD 0 0).toNat : Int) < 1 := of_decide_eq_true hs21
        refine AtL.skipped rfl rfl rfl rfl rfl rfl ?_
        refine AtL.skipped rfl rfl rfl rfl rfl rfl ?_
        refine AtL.pickT (.inl rfl) rfl rfl rfl ?_
        exact J _ (by exact ⟨(boolIs (by clear J; first | (simp [hs21]; done) | (simp_all; done) | grind)), rfl, rfl, trivial⟩)
      · intro hs21
        have hs21 : ¬ (((y.l.getD 0 0).toNat : Int) < 1) := of_decide_eq_false hs21
        refine AtL.move (.inr ⟨_, _, _, rfl, rfl, rfl, rfl⟩) rfl rfl ?_
        refine AtL.gtr (.inr ⟨_, _, _, rfl, rfl, rfl, rfl⟩) rfl rfl rfl ?_
        refine AtL.pickF (.inl rfl) rfl rfl rfl ?_
        exact J _ (by exact ⟨(boolIs (by clear J; first | (simp [hs21]; done) | (simp_all; done) | grind)), rfl, rfl, trivial⟩)
    · skip
      refine AtL.move (.inl rfl) rfl rfl ?_
      refine AtL.join 8 (E' := [(33, .bool (decide (((((y.l.getD 0 0).toNat : Int) < 1) ∨ (3 < ((y.l.getD 0 0).toNat : Int))) ∨ (((decide (((y.l.getD 0 0).toNat : Int) = 1)) == hello) = true)))), (0, .pointer (some ⟨b, 0, none⟩)), (5, .int .i64 ((y.l.getD 0 0).toNat : Int))]) (H' := y.s :: [(b, .cells #[.slice y.A y.l.length y.C, .bool hello, .bool false, .bool out, .bool gr, .bool sh] 61 (0, 0))] :: H) (fun J => ?_) ?_
      · refine AtL.split (t := 25) rfl ?_ ?_
        · intro hs25
          have hs25 : (((y.l.getD 0 0).toNat : Int) < 1) ∨ (3 < ((y.l.getD 0 0).toNat : Int)) := of_decide_eq_true hs25
          refine AtL.skipped rfl rfl rfl rfl rfl rfl ?_
          refine AtL.skipped rfl rfl rfl rfl rfl rfl ?_
          refine AtL.skipped rfl rfl rfl rfl rfl rfl ?_
          refine AtL.skipped rfl rfl rfl rfl rfl rfl ?_
          refine AtL.skipped rfl rfl rfl rfl rfl rfl ?_
          refine AtL.skipped rfl rfl rfl rfl rfl rfl ?_
          refine AtL.skipped rfl rfl rfl rfl rfl rfl ?_
          refine AtL.pickT (.inl rfl) rfl rfl rfl ?_
          exact J _ (by exact ⟨(boolIs (by clear J; first | (simp [hs25]; done) | (simp_all; done) | grind)), rfl, rfl, trivial⟩)
        · intro hs25
          have hs25 : ¬ ((((y.l.getD 0 0).toNat : Int) < 1) ∨ (3 < ((y.l.getD 0 0).toNat : Int))) := of_decide_eq_false hs25
          refine AtL.move (.inr ⟨_, _, _, rfl, rfl, rfl, rfl⟩) rfl rfl ?_
          refine AtL.eqi (.inr ⟨_, _, _, rfl, rfl, rfl, rfl⟩) rfl rfl rfl ?_
          refine AtL.move (.inr ⟨_, _, _, rfl, rfl, rfl, rfl⟩) rfl rfl ?_
          refine AtL.nilCheck (.inr ⟨_, _, _, rfl, rfl, rfl, rfl⟩) rfl rfl ?_
          refine AtL.fieldAddrB tf_fo61_1 (.inr ⟨_, _, _, rfl, rfl, rfl, rfl⟩) rfl rfl rfl ?_
          refine AtL.load tf_flat4 (.inr ⟨_, _, _, rfl, rfl, rfl, rfl⟩) rfl rfl (Cell.own 1 0 rfl rfl rfl) ?_
          refine AtL.eqb Try.underlying4 (.inr ⟨_, _, _, rfl, rfl, rfl, rfl⟩) rfl rfl rfl ?_
          refine AtL.pickF (.inl rfl) rfl rfl rfl ?_
          exact J _ (by exact ⟨(boolIs (by clear J; first | (simp [hs25]; done) | (simp_all; done) | grind)), rfl, rfl, trivial⟩)
      · skip
        refine AtL.done ?_
        refine At.cond rfl ?_ ?_
        · intro hc2
          have hc2 : ((((y.l.getD 0 0).toNat : Int) < 1) ∨ (3 < ((y.l.getD 0 0).toNat : Int))) ∨ (((decide (((y.l.getD 0 0).toNat : Int) = 1)) == hello) = true) := of_decide_eq_true hc2
          refine At.seq ?_
          refine At.region ?_
          refine AtL.assign (.inl rfl) rfl rfl ?_
          refine AtL.assign (.inl rfl) rfl rfl ?_
          refine AtL.assign (.inl rfl) rfl rfl ?_
          refine AtL.done ?_
          exact At.ret Try.func57 rfl rfl (⟨none, 0, by rw [show (oneF hello y.l).x = [] from by grind [oneF]]; exact Rd.nil_, by grind [oneF, oneOf], by grind [oneF]⟩)
        · intro hc2
          have hc2 : ¬ (((((y.l.getD 0 0).toNat : Int) < 1) ∨ (3 < ((y.l.getD 0 0).toNat : Int))) ∨ (((decide (((y.l.getD 0 0).toNat : Int) = 1)) == hello) = true)) := of_decide_eq_false hc2
          refine At.skip ?_
          refine At.seq ?_
          refine At.region ?_
          refine AtL.move (.inl rfl) rfl rfl ?_
          refine AtL.nilCheck (.inl rfl) rfl rfl ?_
          refine AtL.fieldAddrB tf_fo61_0 (.inl rfl) rfl rfl rfl ?_
          refine AtL.load tf_flat59 (.inl rfl) rfl rfl (Cell.own 1 0 rfl rfl rfl) ?_
          refine AtL.call tf_body61 (.inl rfl) rfl rfl (size_ok (l := y.l) (y.own.rd (i := 0) rfl) (by omega)) ?_
          rintro _ _ ⟨n1, z2, hz3, hn4, rfl, rfl⟩
          refine AtL.move (.inl rfl) rfl rfl ?_
          refine AtL.extract (.inl rfl) rfl rfl rfl ?_
          refine AtL.extract (.inl rfl) rfl rfl rfl ?_
          refine AtL.assign (.inl rfl) rfl rfl ?_
          refine AtL.assign (.inl rfl) rfl rfl ?_
          refine AtL.done ?_
          refine At.seq ?_
          refine At.block ?_
          refine At.seq ?_
          refine At.region ?_
          refine AtL.move (.inl rfl) rfl rfl ?_
          refine AtL.not (.inl rfl) rfl rfl ?_
          refine AtL.assign (.inl rfl) rfl rfl ?_
          refine AtL.done ?_
          refine At.cond rfl ?_ ?_
          · intro hc3
            have hc3 : z2 = false := bnot_true hc3
            refine At.seq ?_
            refine At.region ?_
            refine AtL.assign (.inl rfl) rfl rfl ?_
            refine AtL.assign (.inl rfl) rfl rfl ?_
            refine AtL.assign (.inl rfl) rfl rfl ?_
            refine AtL.done ?_
            exact At.ret Try.func57 rfl rfl (⟨none, 0, by rw [show (oneF hello y.l).x = [] from by grind [oneF]]; exact Rd.nil_, by grind [oneF, oneOf], by grind [oneF]⟩)
          · intro hc3
            have hc3 : z2 = true := bnot_false hc3
            refine At.seq ?_
            refine At.seq ?_
            refine At.region ?_
            refine AtL.move (.inl rfl) rfl rfl ?_
            refine AtL.eqi (.inl rfl) rfl rfl rfl ?_
            refine AtL.move (.inl rfl) rfl rfl ?_
            refine AtL.join 3 (E' := [(51, .bool (decide ((((y.l.getD 0 0).toNat : Int) = 1) ∧ (¬ ((n1 : Int) = 1))))), (0, .pointer (some ⟨b, 0, none⟩)), (5, .int .i64 ((y.l.getD 0 0).toNat : Int)), (6, .int .i64 (n1 : Int))]) (H' := y.s :: [(b, .cells #[.slice y.A y.l.length y.C, .bool hello, .bool false, .bool out, .bool gr, .bool sh] 61 (0, 0))] :: H) (fun J => ?_) ?_
            · refine AtL.split (t := 48) rfl ?_ ?_
              · intro hs48
                have hs48 : ((y.l.getD 0 0).toNat : Int) = 1 := of_decide_eq_true hs48
                refine AtL.move (.inr ⟨_, _, _, rfl, rfl, rfl, rfl⟩) rfl rfl ?_
                refine AtL.nei (.inr ⟨_, _, _, rfl, rfl, rfl, rfl⟩) rfl rfl rfl ?_
                refine AtL.pickT (.inl rfl) rfl rfl rfl ?_
                exact J _ (by exact ⟨(boolIs (by clear J; first | (simp [hs48]; done) | (simp_all; done) | grind)), rfl, rfl, rfl, trivial⟩)
              · intro hs48
                have hs48 : ¬ (((y.l.getD 0 0).toNat : Int) = 1) := of_decide_eq_false hs48
                refine AtL.skipped rfl rfl rfl rfl rfl rfl ?_
                refine AtL.skipped rfl rfl rfl rfl rfl rfl ?_
                refine AtL.pickF (.inl rfl) rfl rfl rfl ?_
                exact J _ (by exact ⟨(boolIs (by clear J; first | (simp [hs48]; done) | (simp_all; done) | grind)), rfl, rfl, rfl, trivial⟩)
            · skip
              refine AtL.assign (.inl rfl) rfl rfl ?_
              refine AtL.done ?_
              refine At.cond rfl ?_ ?_
              · intro hc4
                have hc4 : (((y.l.getD 0 0).toNat : Int) = 1) ∧ (¬ ((n1 : Int) = 1)) := of_decide_eq_true hc4
                refine At.skip ?_
                refine At.cond rfl ?_ ?_
                · intro hc5
                  have hc5 : (((y.l.getD 0 0).toNat : Int) = 1) ∧ (¬ ((n1 : Int) = 1)) := of_decide_eq_true hc5
                  refine At.seq ?_
                  refine At.region ?_
                  refine AtL.assign (.inl rfl) rfl rfl ?_
                  refine AtL.assign (.inl rfl) rfl rfl ?_
                  refine AtL.assign (.inl rfl) rfl rfl ?_
                  refine AtL.done ?_
                  exact At.ret Try.func57 rfl rfl (⟨none, 0, by rw [show (oneF hello y.l).x = [] from by grind [oneF]]; exact Rd.nil_, by grind [oneF, oneOf], by grind [oneF]⟩)
                · intro hc5
                  have hc5 : ¬ ((((y.l.getD 0 0).toNat : Int) = 1) ∧ (¬ ((n1 : Int) = 1))) := of_decide_eq_false hc5
                  refine At.seq ?_
                  refine At.region ?_
                  refine AtL.move (.inl rfl) rfl rfl ?_
                  refine AtL.gtr (.inl rfl) rfl rfl rfl ?_
                  refine AtL.assign (.inl rfl) rfl rfl ?_
                  refine AtL.done ?_
                  refine At.cond rfl ?_ ?_
                  · intro hc6
                    have hc6 : 1024 < (n1 : Int) := of_decide_eq_true hc6
                    refine At.seq ?_
                    refine At.region ?_
                    refine AtL.assign (.inl rfl) rfl rfl ?_
                    refine AtL.assign (.inl rfl) rfl rfl ?_
                    refine AtL.assign (.inl rfl) rfl rfl ?_
                    refine AtL.done ?_
                    exact At.ret Try.func57 rfl rfl (⟨none, 0, by rw [show (oneF hello y.l).x = [] from by grind [oneF]]; exact Rd.nil_, by grind [oneF, oneOf], by grind [oneF]⟩)
                  · intro hc6
                    have hc6 : ¬ (1024 < (n1 : Int)) := of_decide_eq_false hc6
                    refine At.seq ?_
                    refine At.region ?_
                    refine AtL.move (.inl rfl) rfl rfl ?_
                    refine AtL.nilCheck (.inl rfl) rfl rfl ?_
                    refine AtL.fieldAddrB tf_fo61_0 (.inl rfl) rfl rfl rfl ?_
                    refine AtL.load tf_flat59 (.inl rfl) rfl rfl (Cell.own 1 0 rfl rfl rfl) ?_
                    refine AtL.lenL Try.underlying59 (.inl rfl) rfl rfl ?_
                    refine AtL.move (.inl rfl) rfl rfl ?_
                    refine AtL.add (z := 3 + (n1 : Int)) (.inl rfl) rfl rfl rfl (w64 (by omega) (by omega)) ?_
                    refine AtL.lss (.inl rfl) rfl rfl rfl ?_
                    refine AtL.assign (.inl rfl) rfl rfl ?_
                    refine AtL.done ?_
                    refine At.cond rfl ?_ ?_
                    · intro hc7
                      have hc7 : (y.l.length : Int) < (3 + (n1 : Int)) := of_decide_eq_true hc7
                      refine At.seq ?_
                      refine At.region ?_
                      refine AtL.assign (.inl rfl) rfl rfl ?_
                      refine AtL.assign (.inl rfl) rfl rfl ?_
                      refine AtL.assign (.inl rfl) rfl rfl ?_
                      refine AtL.done ?_
                      exact At.ret Try.func57 rfl rfl (⟨none, 0, by rw [show (oneF hello y.l).x = [] from by grind [oneF]]; exact Rd.nil_, by grind [oneF, oneOf], by grind [oneF]⟩)
                    · intro hc7
                      have hc7 : ¬ ((y.l.length : Int) < (3 + (n1 : Int))) := of_decide_eq_false hc7
                      refine At.skip ?_
                      refine At.inBlock ?_
                      refine At.seq ?_
                      refine At.region ?_
                      refine AtL.move (.inl rfl) rfl rfl ?_
                      refine AtL.nilCheck (.inl rfl) rfl rfl ?_
                      refine AtL.fieldAddrB tf_fo61_0 (.inl rfl) rfl rfl rfl ?_
                      refine AtL.load tf_flat59 (.inl rfl) rfl rfl (Cell.own 1 0 rfl rfl rfl) ?_
                      refine AtL.move (.inl rfl) rfl rfl ?_
                      refine AtL.add (z := 3 + (n1 : Int)) (.inl rfl) rfl rfl rfl (w64 (by omega) (by omega)) ?_
                      have hleo7 := Own.le_cap y.own
                      refine AtL.sliceO 3 (3 + n1) y.C y.own (evBound_some rfl rfl) (evBound_some rfl rfl) rfl (by intro h; cases h) (by omega) (by omega) (by omega) (Nat.le_refl _) Try.underlying59 tf_sz5 (.inl rfl) rfl rfl ?_
                      intro A5 C6 o7
                      clear hleo7
                      have hlo7 : (subl y.l 3 (3 + n1)).length = (3 + n1) - 3 := subl_len (by omega)
                      refine AtL.assign (.inl rfl) rfl rfl ?_
                      refine AtL.done ?_
                      refine At.seq ?_
                      refine At.seq ?_
                      refine At.region ?_
                      refine AtL.move (.inl rfl) rfl rfl ?_
                      refine AtL.done ?_
                      refine At.block ?_
                      refine At.seq ?_
                      refine At.region ?_
                      refine AtL.eqi (.inl rfl) rfl rfl rfl ?_
                      refine AtL.assign (.inl rfl) rfl rfl ?_
                      refine AtL.done ?_
                      refine At.cond rfl ?_ ?_
                      · intro hc8
                        have hc8 : ((y.l.getD 0 0).toNat : Int) = 1 := of_decide_eq_true hc8
                        refine At.seq ?_
                        refine At.seq ?_
                        refine At.region ?_
                        refine AtL.move (.inl rfl) rfl rfl ?_
                        refine AtL.indexL 0 (o7.rd (i := 0) rfl) Try.underlying22 tf_sz5 (.inl rfl) rfl rfl rfl rfl (by omega) ?_
                        refine AtL.load (v := .int .u8 (((subl y.l 3 (3 + n1)).getD 0 0).toNat : Int)) tf_flat5 (.inl rfl) rfl rfl (Rd.cell0 (o7.rd (i := 0) rfl) (getD_some 0 (by omega)) rfl) ?_
                        refine AtL.nei (.inl rfl) rfl rfl rfl ?_
                        refine AtL.done ?_
                        refine At.cond rfl ?_ ?_
                        · intro hc9
                          have hc9 : ¬ ((((subl y.l 3 (3 + n1)).getD 0 0).toNat : Int) = 1) := of_decide_eq_false (bnot_true hc9)
                          refine At.seq ?_
                          refine At.region ?_
                          refine AtL.assign (.inl rfl) rfl rfl ?_
                          refine AtL.assign (.inl rfl) rfl rfl ?_
                          refine AtL.assign (.inl rfl) rfl rfl ?_
                          refine AtL.done ?_
                          have hg := subl_gets (l := y.l) (i := 3) (j := 3 + n1) (k := 0) (by omega)
                          exact At.ret Try.func57 rfl rfl (⟨none, 0, by rw [show (oneF hello y.l).x = [] from by grind [oneF]]; exact Rd.nil_, by grind [oneF, oneOf], by grind [oneF]⟩)
                        · intro hc9
                          have hc9 : (((subl y.l 3 (3 + n1)).getD 0 0).toNat : Int) = 1 := of_decide_eq_true (bnot_false hc9)
                          refine At.skip ?_
                          refine At.region ?_
                          refine AtL.move (.inl rfl) rfl rfl ?_
                          refine AtL.nilCheck (.inl rfl) rfl rfl ?_
                          refine AtL.fieldAddrB tf_fo61_1 (.inl rfl) rfl rfl rfl ?_
                          refine AtL.store (H' := y.s :: [(b, .cells #[.slice y.A y.l.length y.C, .bool true, .bool false, .bool out, .bool gr, .bool sh] 61 (0, 0))] :: H) 1 0 tf_sz4 (.inl rfl) rfl rfl rfl rfl rfl rfl rfl rfl rfl ?_
                          refine AtL.assign (.inl rfl) rfl rfl ?_
                          refine AtL.done ?_
                          refine At.inBlock ?_
                          refine At.seq ?_
                          refine At.region ?_
                          refine AtL.move (.inl rfl) rfl rfl ?_
                          refine AtL.move (.inl rfl) rfl rfl ?_
                          refine AtL.add (z := 3 + (n1 : Int)) (.inl rfl) rfl rfl rfl (w64 (by omega) (by omega)) ?_
                          refine AtL.assign (.inl rfl) rfl rfl ?_
                          refine AtL.assign (.inl rfl) rfl rfl ?_
                          refine AtL.assign (.inl rfl) rfl rfl ?_
                          refine AtL.done ?_
                          have hg := subl_gets (l := y.l) (i := 3) (j := 3 + n1) (k := 0) (by omega)
                          exact At.ret Try.func57 rfl rfl (⟨none, 0, by rw [show (oneF hello y.l).x = [] from by grind [oneF]]; exact Rd.nil_, by grind [oneF, oneOf], by grind [oneF]⟩)
                      · intro hc8
                        have hc8 : ¬ (((y.l.getD 0 0).toNat : Int) = 1) := of_decide_eq_false hc8
                        refine At.seq ?_
                        refine At.region ?_
                        refine AtL.eqi (.inl rfl) rfl rfl rfl ?_
                        refine AtL.assign (.inl rfl) rfl rfl ?_
                        refine AtL.done ?_
                        refine At.cond rfl ?_ ?_
                        · intro hc10
                          have hc10 : ((y.l.getD 0 0).toNat : Int) = 3 := of_decide_eq_true hc10
                          refine At.region ?_
                          refine AtL.move (.inl rfl) rfl rfl ?_
                          refine AtL.nilCheck (.inl rfl) rfl rfl ?_
                          refine AtL.fieldAddrB tf_fo61_2 (.inl rfl) rfl rfl rfl ?_
                          refine AtL.store (H' := y.s :: [(b, .cells #[.slice y.A y.l.length y.C, .bool hello, .bool true, .bool out, .bool gr, .bool sh] 61 (0, 0))] :: H) 1 0 tf_sz4 (.inl rfl) rfl rfl rfl rfl rfl rfl rfl rfl rfl ?_
                          refine AtL.done ?_
                          refine At.inBlock ?_
                          refine At.seq ?_
                          refine At.region ?_
                          refine AtL.move (.inl rfl) rfl rfl ?_
                          refine AtL.move (.inl rfl) rfl rfl ?_
                          refine AtL.add (z := 3 + (n1 : Int)) (.inl rfl) rfl rfl rfl (w64 (by omega) (by omega)) ?_
                          refine AtL.assign (.inl rfl) rfl rfl ?_
                          refine AtL.assign (.inl rfl) rfl rfl ?_
                          refine AtL.assign (.inl rfl) rfl rfl ?_
                          refine AtL.done ?_
                          exact At.ret Try.func57 rfl rfl (⟨A5, C6, by rw [show (oneF hello y.l).x = subl y.l 3 (3 + n1) from by grind [oneF]]; exact (o7.rd (i := 0) rfl), by grind [oneF, oneOf], by grind [oneF]⟩)
                        · intro hc10
                          have hc10 : ¬ (((y.l.getD 0 0).toNat : Int) = 3) := of_decide_eq_false hc10
                          refine At.skip ?_
                          refine At.inBlock ?_
                          refine At.seq ?_
                          refine At.region ?_
                          refine AtL.move (.inl rfl) rfl rfl ?_
                          refine AtL.move (.inl rfl) rfl rfl ?_
                          refine AtL.add (z := 3 + (n1 : Int)) (.inl rfl) rfl rfl rfl (w64 (by omega) (by omega)) ?_
                          refine AtL.assign (.inl rfl) rfl rfl ?_
                          refine AtL.assign (.inl rfl) rfl rfl ?_
                          refine AtL.assign (.inl rfl) rfl rfl ?_
                          refine AtL.done ?_
                          exact At.ret Try.func57 rfl rfl (⟨A5, C6, by rw [show (oneF hello y.l).x = subl y.l 3 (3 + n1) from by grind [oneF]]; exact (o7.rd (i := 0) rfl), by grind [oneF, oneOf], by grind [oneF]⟩)
              · intro hc4
                have hc4 : ¬ ((((y.l.getD 0 0).toNat : Int) = 1) ∧ (¬ ((n1 : Int) = 1))) := of_decide_eq_false hc4
                refine At.region ?_
                refine AtL.move (.inl rfl) rfl rfl ?_
                refine AtL.eqi (.inl rfl) rfl rfl rfl ?_
                refine AtL.move (.inl rfl) rfl rfl ?_
                refine AtL.join 3 (E' := [(57, .bool (decide ((((y.l.getD 0 0).toNat : Int) = 3) ∧ (¬ ((n1 : Int) = 0))))), (0, .pointer (some ⟨b, 0, none⟩)), (5, .int .i64 ((y.l.getD 0 0).toNat : Int)), (6, .int .i64 (n1 : Int))]) (H' := y.s :: [(b, .cells #[.slice y.A y.l.length y.C, .bool hello, .bool false, .bool out, .bool gr, .bool sh] 61 (0, 0))] :: H) (fun J => ?_) ?_
                · refine AtL.split (t := 54) rfl ?_ ?_
                  · intro hs54
                    have hs54 : ((y.l.getD 0 0).toNat : Int) = 3 := of_decide_eq_true hs54
                    refine AtL.move (.inr ⟨_, _, _, rfl, rfl, rfl, rfl⟩) rfl rfl ?_
                    refine AtL.nei (.inr ⟨_, _, _, rfl, rfl, rfl, rfl⟩) rfl rfl rfl ?_
                    refine AtL.pickT (.inl rfl) rfl rfl rfl ?_
                    exact J _ (by exact ⟨(boolIs (by clear J; first | (simp [hs54]; done) | (simp_all; done) | grind)), rfl, rfl, rfl, trivial⟩)
                  · intro hs54
                    have hs54 : ¬ (((y.l.getD 0 0).toNat : Int) = 3) := of_decide_eq_false hs54
                    refine AtL.skipped rfl rfl rfl rfl rfl rfl ?_
                    refine AtL.skipped rfl rfl rfl rfl rfl rfl ?_
                    refine AtL.pickF (.inl rfl) rfl rfl rfl ?_
                    exact J _ (by exact ⟨(boolIs (by clear J; first | (simp [hs54]; done) | (simp_all; done) | grind)), rfl, rfl, rfl, trivial⟩)
                · skip
                  refine AtL.assign (.inl rfl) rfl rfl ?_
                  refine AtL.done ?_
                  refine At.cond rfl ?_ ?_
                  · intro hc5
                    have hc5 : (((y.l.getD 0 0).toNat : Int) = 3) ∧ (¬ ((n1 : Int) = 0)) := of_decide_eq_true hc5
                    refine At.seq ?_
                    refine At.region ?_
                    refine AtL.assign (.inl rfl) rfl rfl ?_
                    refine AtL.assign (.inl rfl) rfl rfl ?_
                    refine AtL.assign (.inl rfl) rfl rfl ?_
                    refine AtL.done ?_
                    exact At.ret Try.func57 rfl rfl (⟨none, 0, by rw [show (oneF hello y.l).x = [] from by grind [oneF]]; exact Rd.nil_, by grind [oneF, oneOf], by grind [oneF]⟩)
                  · intro hc5
                    have hc5 : ¬ ((((y.l.getD 0 0).toNat : Int) = 3) ∧ (¬ ((n1 : Int) = 0))) := of_decide_eq_false hc5
                    refine At.seq ?_
                    refine At.region ?_
                    refine AtL.move (.inl rfl) rfl rfl ?_
                    refine AtL.gtr (.inl rfl) rfl rfl rfl ?_
                    refine AtL.assign (.inl rfl) rfl rfl ?_
                    refine AtL.done ?_
                    refine At.cond rfl ?_ ?_
                    · intro hc6
                      have hc6 : 1024 < (n1 : Int) := of_decide_eq_true hc6
                      refine At.seq ?_
                      refine At.region ?_
                      refine AtL.assign (.inl rfl) rfl rfl ?_
                      refine AtL.assign (.inl rfl) rfl rfl ?_
                      refine AtL.assign (.inl rfl) rfl rfl ?_
                      refine AtL.done ?_
                      exact At.ret Try.func57 rfl rfl (⟨none, 0, by rw [show (oneF hello y.l).x = [] from by grind [oneF]]; exact Rd.nil_, by grind [oneF, oneOf], by grind [oneF]⟩)
                    · intro hc6
                      have hc6 : ¬ (1024 < (n1 : Int)) := of_decide_eq_false hc6
                      refine At.seq ?_
                      refine At.region ?_
                      refine AtL.move (.inl rfl) rfl rfl ?_
                      refine AtL.nilCheck (.inl rfl) rfl rfl ?_
                      refine AtL.fieldAddrB tf_fo61_0 (.inl rfl) rfl rfl rfl ?_
                      refine AtL.load tf_flat59 (.inl rfl) rfl rfl (Cell.own 1 0 rfl rfl rfl) ?_
                      refine AtL.lenL Try.underlying59 (.inl rfl) rfl rfl ?_
                      refine AtL.move (.inl rfl) rfl rfl ?_
                      refine AtL.add (z := 3 + (n1 : Int)) (.inl rfl) rfl rfl rfl (w64 (by omega) (by omega)) ?_
                      refine AtL.lss (.inl rfl) rfl rfl rfl ?_
                      refine AtL.assign (.inl rfl) rfl rfl ?_
                      refine AtL.done ?_
                      refine At.cond rfl ?_ ?_
                      · intro hc7
                        have hc7 : (y.l.length : Int) < (3 + (n1 : Int)) := of_decide_eq_true hc7
                        refine At.seq ?_
                        refine At.region ?_
                        refine AtL.assign (.inl rfl) rfl rfl ?_
                        refine AtL.assign (.inl rfl) rfl rfl ?_
                        refine AtL.assign (.inl rfl) rfl rfl ?_
                        refine AtL.done ?_
                        exact At.ret Try.func57 rfl rfl (⟨none, 0, by rw [show (oneF hello y.l).x = [] from by grind [oneF]]; exact Rd.nil_, by grind [oneF, oneOf], by grind [oneF]⟩)
                      · intro hc7
                        have hc7 : ¬ ((y.l.length : Int) < (3 + (n1 : Int))) := of_decide_eq_false hc7
                        refine At.skip ?_
                        refine At.inBlock ?_
                        refine At.seq ?_
                        refine At.region ?_
                        refine AtL.move (.inl rfl) rfl rfl ?_
                        refine AtL.nilCheck (.inl rfl) rfl rfl ?_
                        refine AtL.fieldAddrB tf_fo61_0 (.inl rfl) rfl rfl rfl ?_
                        refine AtL.load tf_flat59 (.inl rfl) rfl rfl (Cell.own 1 0 rfl rfl rfl) ?_
                        refine AtL.move (.inl rfl) rfl rfl ?_
                        refine AtL.add (z := 3 + (n1 : Int)) (.inl rfl) rfl rfl rfl (w64 (by omega) (by omega)) ?_
                        have hleo10 := Own.le_cap y.own
                        refine AtL.sliceO 3 (3 + n1) y.C y.own (evBound_some rfl rfl) (evBound_some rfl rfl) rfl (by intro h; cases h) (by omega) (by omega) (by omega) (Nat.le_refl _) Try.underlying59 tf_sz5 (.inl rfl) rfl rfl ?_
                        intro A8 C9 o10
                        clear hleo10
                        have hlo10 : (subl y.l 3 (3 + n1)).length = (3 + n1) - 3 := subl_len (by omega)
                        refine AtL.assign (.inl rfl) rfl rfl ?_
                        refine AtL.done ?_
                        refine At.seq ?_
                        refine At.seq ?_
                        refine At.region ?_
                        refine AtL.move (.inl rfl) rfl rfl ?_
                        refine AtL.done ?_
                        refine At.block ?_
                        refine At.seq ?_
                        refine At.region ?_
                        refine AtL.eqi (.inl rfl) rfl rfl rfl ?_
                        refine AtL.assign (.inl rfl) rfl rfl ?_
                        refine AtL.done ?_
                        refine At.cond rfl ?_ ?_
                        · intro hc8
                          have hc8 : ((y.l.getD 0 0).toNat : Int) = 1 := of_decide_eq_true hc8
                          refine At.seq ?_
                          refine At.seq ?_
                          refine At.region ?_
                          refine AtL.move (.inl rfl) rfl rfl ?_
                          refine AtL.indexL 0 (o10.rd (i := 0) rfl) Try.underlying22 tf_sz5 (.inl rfl) rfl rfl rfl rfl (by omega) ?_
                          refine AtL.load (v := .int .u8 (((subl y.l 3 (3 + n1)).getD 0 0).toNat : Int)) tf_flat5 (.inl rfl) rfl rfl (Rd.cell0 (o10.rd (i := 0) rfl) (getD_some 0 (by omega)) rfl) ?_
                          refine AtL.nei (.inl rfl) rfl rfl rfl ?_
                          refine AtL.done ?_
                          refine At.cond rfl ?_ ?_
                          · intro hc9
                            have hc9 : ¬ ((((subl y.l 3 (3 + n1)).getD 0 0).toNat : Int) = 1) := of_decide_eq_false (bnot_true hc9)
                            refine At.seq ?_
                            refine At.region ?_
                            refine AtL.assign (.inl rfl) rfl rfl ?_
                            refine AtL.assign (.inl rfl) rfl rfl ?_
                            refine AtL.assign (.inl rfl) rfl rfl ?_
                            refine AtL.done ?_
                            have hg := subl_gets (l := y.l) (i := 3) (j := 3 + n1) (k := 0) (by omega)
                            exact At.ret Try.func57 rfl rfl (⟨none, 0, by rw [show (oneF hello y.l).x = [] from by grind [oneF]]; exact Rd.nil_, by grind [oneF, oneOf], by grind [oneF]⟩)
                          · intro hc9
                            have hc9 : (((subl y.l 3 (3 + n1)).getD 0 0).toNat : Int) = 1 := of_decide_eq_true (bnot_false hc9)
                            refine At.skip ?_
                            refine At.region ?_
                            refine AtL.move (.inl rfl) rfl rfl ?_
                            refine AtL.nilCheck (.inl rfl) rfl rfl ?_
                            refine AtL.fieldAddrB tf_fo61_1 (.inl rfl) rfl rfl rfl ?_
                            refine AtL.store (H' := y.s :: [(b, .cells #[.slice y.A y.l.length y.C, .bool true, .bool false, .bool out, .bool gr, .bool sh] 61 (0, 0))] :: H) 1 0 tf_sz4 (.inl rfl) rfl rfl rfl rfl rfl rfl rfl rfl rfl ?_
                            refine AtL.assign (.inl rfl) rfl rfl ?_
                            refine AtL.done ?_
                            refine At.inBlock ?_
                            refine At.seq ?_
                            refine At.region ?_
                            refine AtL.move (.inl rfl) rfl rfl ?_
                            refine AtL.move (.inl rfl) rfl rfl ?_
                            refine AtL.add (z := 3 + (n1 : Int)) (.inl rfl) rfl rfl rfl (w64 (by omega) (by omega)) ?_
                            refine AtL.assign (.inl rfl) rfl rfl ?_
                            refine AtL.assign (.inl rfl) rfl rfl ?_
                            refine AtL.assign (.inl rfl) rfl rfl ?_
                            refine AtL.done ?_
                            have hg := subl_gets (l := y.l) (i := 3) (j := 3 + n1) (k := 0) (by omega)
                            exact At.ret Try.func57 rfl rfl (⟨none, 0, by rw [show (oneF hello y.l).x = [] from by grind [oneF]]; exact Rd.nil_, by grind [oneF, oneOf], by grind [oneF]⟩)
                        · intro hc8
                          have hc8 : ¬ (((y.l.getD 0 0).toNat : Int) = 1) := of_decide_eq_false hc8
                          refine At.seq ?_
                          refine At.region ?_
                          refine AtL.eqi (.inl rfl) rfl rfl rfl ?_
                          refine AtL.assign (.inl rfl) rfl rfl ?_
                          refine AtL.done ?_
                          refine At.cond rfl ?_ ?_
                          · intro hc10
                            have hc10 : ((y.l.getD 0 0).toNat : Int) = 3 := of_decide_eq_true hc10
                            refine At.region ?_
                            refine AtL.move (.inl rfl) rfl rfl ?_
                            refine AtL.nilCheck (.inl rfl) rfl rfl ?_
                            refine AtL.fieldAddrB tf_fo61_2 (.inl rfl) rfl rfl rfl ?_
                            refine AtL.store (H' := y.s :: [(b, .cells #[.slice y.A y.l.length y.C, .bool hello, .bool true, .bool out, .bool gr, .bool sh] 61 (0, 0))] :: H) 1 0 tf_sz4 (.inl rfl) rfl rfl rfl rfl rfl rfl rfl rfl rfl ?_
                            refine AtL.done ?_
                            refine At.inBlock ?_
                            refine At.seq ?_
                            refine At.region ?_
                            refine AtL.move (.inl rfl) rfl rfl ?_
                            refine AtL.move (.inl rfl) rfl rfl ?_
                            refine AtL.add (z := 3 + (n1 : Int)) (.inl rfl) rfl rfl rfl (w64 (by omega) (by omega)) ?_
                            refine AtL.assign (.inl rfl) rfl rfl ?_
                            refine AtL.assign (.inl rfl) rfl rfl ?_
                            refine AtL.assign (.inl rfl) rfl rfl ?_
                            refine AtL.done ?_
                            exact At.ret Try.func57 rfl rfl (⟨A8, C9, by rw [show (oneF hello y.l).x = subl y.l 3 (3 + n1) from by grind [oneF]]; exact (o10.rd (i := 0) rfl), by grind [oneF, oneOf], by grind [oneF]⟩)
                          · intro hc10
                            have hc10 : ¬ (((y.l.getD 0 0).toNat : Int) = 3) := of_decide_eq_false hc10
                            refine At.skip ?_
                            refine At.inBlock ?_
                            refine At.seq ?_
                            refine At.region ?_
                            refine AtL.move (.inl rfl) rfl rfl ?_
                            refine AtL.move (.inl rfl) rfl rfl ?_
                            refine AtL.add (z := 3 + (n1 : Int)) (.inl rfl) rfl rfl rfl (w64 (by omega) (by omega)) ?_
                            refine AtL.assign (.inl rfl) rfl rfl ?_
                            refine AtL.assign (.inl rfl) rfl rfl ?_
                            refine AtL.assign (.inl rfl) rfl rfl ?_
                            refine AtL.done ?_
                            exact At.ret Try.func57 rfl rfl (⟨A8, C9, by rw [show (oneF hello y.l).x = subl y.l 3 (3 + n1) from by grind [oneF]]; exact (o10.rd (i := 0) rfl), by grind [oneF, oneOf], by grind [oneF]⟩)

/-- P27.2: what comes in is told; behind the end, or once it is broken, that is an error. -/
def pushS (h off out : Bool) (k l : List UInt8) : PushR := if out = true ∨ off = true then ⟨[], 9, k, h, off⟩ else pushF h (k ++ l)
def brokeS (h off out : Bool) (k l : List UInt8) : Bool := if out = true ∨ off = true then out else decide ((pushF h (k ++ l)).e ≠ 0)
theorem oneF_h {h : Bool} {l : List UInt8} (he : ¬ (oneF h l).e = 0) : (oneF h l).h = h ∧ (oneF h l).off = false := by
  revert he
  unfold oneF
  repeat' split
  all_goals simp
theorem told_len (out : List UInt8) (h : Bool) (l : List UInt8) : ((pushF h l).e ≠ 0 → (pushF h l).rest = []) := by
  induction l using (measure List.length).wf.induction generalizing h with
  | _ l ih =>
    rw [pushF]
    split
    · simp
    · split
      · simp
      · split
        · simp
        · have := oneF_n h l
          exact fun he => ih _ (show (List.drop _ _).length < _ by simp; omega) _ he

set_option maxHeartbeats 1000000 in
theorem push_ok {w0 : World} {base : Nat} {H : List Seg} {b : Nat} {y : Sl tyB 5} {hello off out gr sh : Bool} {A : Option Addr} {C : Nat} {l : List UInt8} (h : Rd tyB w0 base H A C l) (hl : y.l.length + l.length ≤ 140737488355000) :
    SCalls Try.prog 53 [.pointer (some ⟨b, 0, none⟩), .slice A l.length C] w0 base (y.s :: [(b, .cells #[.slice y.A y.l.length y.C, .bool hello, .bool off, .bool out, .bool gr, .bool sh] 61 (0, 0))] :: H) (fun v H' => ∃ x z : Sl tyB 5, x.l = (pushS hello off out y.l l).out ∧ z.l = (pushS hello off out y.l l).rest ∧ v = .tuple #[.slice x.A x.l.length x.C, int (pushS hello off out y.l l).e] ∧ H' = x.s :: z.s :: [(b, .cells #[.slice z.A z.l.length z.C, .bool ((pushS hello off out y.l l).h), .bool ((pushS hello off out y.l l).off), .bool (brokeS hello off out y.l l), .bool gr, .bool sh] 61 (0, 0))] :: H) := by
  refine SCalls.of_walk (n := 74) Try.func53 rfl rfl rfl fun cs => ?_
  refine At.seq ?_
  refine At.region ?_
  refine AtL.assign (.inl rfl) rfl rfl ?_
  refine AtL.assign (.inl rfl) rfl rfl ?_
  refine AtL.done ?_
  refine At.seq ?_
  refine At.seq ?_
  refine At.region ?_
  refine AtL.move (.inl rfl) rfl rfl ?_
  refine AtL.nilCheck (.inl rfl) rfl rfl ?_
  refine AtL.fieldAddrB tf_fo61_3 (.inl rfl) rfl rfl rfl ?_
  refine AtL.load tf_flat4 (.inl rfl) rfl rfl (Cell.own 1 0 rfl rfl rfl) ?_
  refine AtL.move (.inl rfl) rfl rfl ?_
  refine AtL.join 5 (E' := [(19, .bool (decide ((out = true) ∨ (off = true)))), (0, .pointer (some ⟨b, 0, none⟩)), (1, .slice A l.length C)]) (H' := y.s :: [(b, .cells #[.slice y.A y.l.length y.C, .bool hello, .bool off, .bool out, .bool gr, .bool sh] 61 (0, 0))] :: H) (fun J => ?_) ?_
  · refine AtL.split (t := 14) rfl ?_ ?_
    · intro hs14
      have hs14 : out = true := hs14
      refine AtL.skipped rfl rfl rfl rfl rfl rfl ?_
      refine AtL.skipped rfl rfl rfl rfl rfl rfl ?_
      refine AtL.skipped rfl rfl rfl rfl rfl rfl ?_
      refine AtL.skipped rfl rfl rfl rfl rfl rfl ?_
      refine AtL.pickT (.inl rfl) rfl rfl rfl ?_
      exact J _ (by exact ⟨(boolIs (by clear J; first | (simp [hs14]; done) | (simp_all; done) | grind)), rfl, rfl, trivial⟩)
    · intro hs14
      have hs14 : out = false := hs14
      refine AtL.move (.inr ⟨_, _, _, rfl, rfl, rfl, rfl⟩) rfl rfl ?_
      refine AtL.nilCheck (.inr ⟨_, _, _, rfl, rfl, rfl, rfl⟩) rfl rfl ?_
      refine AtL.fieldAddrB tf_fo61_2 (.inr ⟨_, _, _, rfl, rfl, rfl, rfl⟩) rfl rfl rfl ?_
      refine AtL.load tf_flat4 (.inr ⟨_, _, _, rfl, rfl, rfl, rfl⟩) rfl rfl (Cell.own 1 0 rfl rfl rfl) ?_
      refine AtL.pickF (.inl rfl) rfl rfl rfl ?_
      exact J _ (by exact ⟨(boolIs (by clear J; first | (simp [hs14]; done) | (simp_all; done) | grind)), rfl, rfl, trivial⟩)
  · skip
    refine AtL.done ?_
    refine At.cond rfl ?_ ?_
    · intro hc1
      have hc1 : (out = true) ∨ (off = true) := of_decide_eq_true hc1
      refine At.seq ?_
      refine At.region ?_
      refine AtL.assign (.inl rfl) rfl rfl ?_
      refine AtL.assign (.inl rfl) rfl rfl ?_
      refine AtL.done ?_
      refine At.nil ?_
      have hp : pushS hello off out y.l l = ⟨[], 9, y.l, hello, off⟩ := by rw [pushS, if_pos hc1]
      have hq : brokeS hello off out y.l l = out := by rw [brokeS, if_pos hc1]
      rw [hp, hq]
      exact At.ret Try.func53 rfl rfl (⟨Sl.nil, y, rfl, rfl, rfl, rfl⟩)
    · intro hc1
      have hc1 : ¬ ((out = true) ∨ (off = true)) := of_decide_eq_false hc1
      refine At.skip ?_
      refine At.seq ?_
      refine At.region ?_
      refine AtL.move (.inl rfl) rfl rfl ?_
      refine AtL.move (.inl rfl) rfl rfl ?_
      refine AtL.nilCheck (.inl rfl) rfl rfl ?_
      refine AtL.fieldAddrB tf_fo61_0 (.inl rfl) rfl rfl rfl ?_
      refine AtL.load tf_flat59 (.inl rfl) rfl rfl (Cell.own 1 0 rfl rfl rfl) ?_
      refine AtL.move (.inl rfl) rfl rfl ?_
      refine AtL.buildSlice (cs := [.slice y.A y.l.length y.C, .slice A l.length C]) Try.underlying88 tf_zero59 tf_sz59 rfl rfl (.inl rfl) rfl rfl rfl ?_
      intro b1
      refine AtL.call tf_body56 (.inl rfl) rfl rfl (rconcat2 (y.own.rd (i := 0) rfl) (Rd.skip 2 h) (by first | omega | (simp only [List.length_append, List.length_cons, List.length_nil]; omega) | (simp; done) | (simp; omega))) ?_
      rintro _ _ ⟨A2, C3, s4, o5, rfl, rfl⟩
      refine AtL.nilCheck (.inl rfl) rfl rfl ?_
      refine AtL.fieldAddrB tf_fo61_0 (.inl rfl) rfl rfl rfl ?_
      refine AtL.store (H' := s4 :: [(b1, .cells #[.slice y.A y.l.length y.C, .slice A l.length C] 59 (0, 0))] :: y.s :: [(b, .cells #[.slice A2 (y.l ++ l).length C3, .bool hello, .bool off, .bool out, .bool gr, .bool sh] 61 (0, 0))] :: H) 3 0 tf_sz59 (.inl rfl) rfl rfl rfl rfl rfl rfl rfl rfl rfl ?_
      refine AtL.done ?_
      refine At.seq ?_
      refine At.region ?_
      refine AtL.assign (.inl rfl) rfl rfl ?_
      refine AtL.done ?_
      refine At.block ?_
      obtain ⟨rfl, rfl⟩ : off = false ∧ out = false := by simpa [and_comm] using hc1
      refine At.nil ?_
      refine At.pick (H' := [] :: s4 :: [(b, .cells #[.slice A2 (y.l ++ l).length C3, .bool hello, .bool false, .bool false, .bool gr, .bool sh] 61 (0, 0))] :: H) [0, 1, 4] 5 rfl rfl ?_
      refine At.loop3 (fun (x : Sl tyB 5) (z : Sl tyB 5) (hh : Bool) => [(0, .pointer (some ⟨b, 0, none⟩)), (6, .slice x.A x.l.length x.C)]) (fun (x : Sl tyB 5) (z : Sl tyB 5) (hh : Bool) => x.s :: z.s :: [(b, .cells #[.slice z.A z.l.length z.C, .bool hh, .bool false, .bool false, .bool gr, .bool sh] 61 (0, 0))] :: H) (fun (x : Sl tyB 5) (z : Sl tyB 5) (hh : Bool) => told x.l hh z.l = pushF hello (y.l ++ l) ∧ x.l.length + z.l.length ≤ y.l.length + l.length) (fun (x : Sl tyB 5) (z : Sl tyB 5) (hh : Bool) => z.l.length) Sl.nil (⟨A2, C3, y.l ++ l, s4, o5⟩) hello (⟨rfl, by simp [Sl.nil]⟩) ⟨rfl, rfl, trivial⟩ rfl ?_
      rintro x z hh ⟨hI, hlen⟩ ihL1
      have hn := oneF_n hh z.l
      refine At.block ?_
      refine At.seq ?_
      refine At.region ?_
      refine AtL.move (.inl rfl) rfl rfl ?_
      refine AtL.pick (H' := z.s :: [(b, .cells #[.slice z.A z.l.length z.C, .bool hh, .bool false, .bool false, .bool gr, .bool sh] 61 (0, 0))] :: x.s :: H) [1, 2, 0] 3 rfl rfl ?_
      refine AtL.call tf_body57 (.inl rfl) rfl rfl (one_ok (y := z) (by omega)) ?_
      rintro _ _ ⟨A6, C7, q8, rfl, rfl⟩
      refine AtL.move (.inl rfl) rfl rfl ?_
      refine AtL.extract (.inl rfl) rfl rfl rfl ?_
      refine AtL.extract (.inl rfl) rfl rfl rfl ?_
      refine AtL.extract (.inl rfl) rfl rfl rfl ?_
      refine AtL.assign (.inl rfl) rfl rfl ?_
      refine AtL.assign (.inl rfl) rfl rfl ?_
      refine AtL.assign (.inl rfl) rfl rfl ?_
      refine AtL.done ?_
      refine At.seq ?_
      refine At.seq ?_
      refine At.region ?_
      refine AtL.move (.inl rfl) rfl rfl ?_
      refine AtL.nei (.inl rfl) rfl rfl rfl ?_
      refine AtL.done ?_
      refine At.cond rfl ?_ ?_
      · intro hc2
        have hc2 : ¬ (((oneF hh z.l).e : Int) = 0) := of_decide_eq_false (bnot_true hc2)
        refine At.seq ?_
        refine At.region ?_
        refine AtL.move (.inl rfl) rfl rfl ?_
        refine AtL.move (.inl rfl) rfl rfl ?_
        refine AtL.nilCheck (.inl rfl) rfl rfl ?_
        refine AtL.fieldAddrB tf_fo61_3 (.inl rfl) rfl rfl rfl ?_
        refine AtL.store (H' := z.s :: [(b, .cells #[.slice z.A z.l.length z.C, .bool ((oneF hh z.l).h), .bool ((oneF hh z.l).off), .bool true, .bool gr, .bool sh] 61 (0, 0))] :: x.s :: H) 1 0 tf_sz4 (.inl rfl) rfl rfl rfl rfl rfl rfl rfl rfl rfl ?_
        refine AtL.nilCheck (.inl rfl) rfl rfl ?_
        refine AtL.fieldAddrB tf_fo61_0 (.inl rfl) rfl rfl rfl ?_
        refine AtL.store (H' := z.s :: [(b, .cells #[.slice none 0 0, .bool ((oneF hh z.l).h), .bool ((oneF hh z.l).off), .bool true, .bool gr, .bool sh] 61 (0, 0))] :: x.s :: H) 1 0 tf_sz59 (.inl rfl) rfl rfl rfl rfl rfl rfl rfl rfl rfl ?_
        refine AtL.done ?_
        refine At.seq ?_
        refine At.region ?_
        refine AtL.move (.inl rfl) rfl rfl ?_
        refine AtL.move (.inl rfl) rfl rfl ?_
        refine AtL.assign (.inl rfl) rfl rfl ?_
        refine AtL.assign (.inl rfl) rfl rfl ?_
        refine AtL.done ?_
        refine At.nil ?_
        refine At.pick (H' := x.s :: [] :: [(b, .cells #[.slice none 0 0, .bool ((oneF hh z.l).h), .bool ((oneF hh z.l).off), .bool true, .bool gr, .bool sh] 61 (0, 0))] :: H) [3, 0, 2] 4 rfl rfl ?_
        have hp : pushS hello false false y.l l = pushF hello (y.l ++ l) := by rw [pushS, if_neg (by simp)]
        have hq : brokeS hello false false y.l l = decide ((pushF hello (y.l ++ l)).e ≠ 0) := by rw [brokeS, if_neg (by simp)]
        rw [hp, hq, ← hI, told_err hc2]
        exact At.ret Try.func53 rfl rfl (⟨x, Sl.nil, rfl, rfl, rfl, by simp only [ne_eq, hc2, not_false_eq_true, decide_true, oneF_h hc2]; rfl⟩)
      · intro hc2
        have hc2 : ((oneF hh z.l).e : Int) = 0 := of_decide_eq_true (bnot_false hc2)
        refine At.skip ?_
        refine At.seq ?_
        refine At.region ?_
        refine AtL.move (.inl rfl) rfl rfl ?_
        refine AtL.move (.inl rfl) rfl rfl ?_
        refine AtL.append (l := x.l) (news := (oneF hh z.l).x) 2 tf_el22 rfl x.own q8 (by first | omega | (simp only [List.length_append, List.length_cons, List.length_nil]; omega) | (simp; done) | (simp; omega)) (.inl rfl) rfl rfl rfl ?_
        intro A9 C10 s11 o12
        refine AtL.assign (.inl rfl) rfl rfl ?_
        refine AtL.done ?_
        refine At.seq ?_
        refine At.region ?_
        refine AtL.move (.inl rfl) rfl rfl ?_
        refine AtL.move (.inl rfl) rfl rfl ?_
        refine AtL.nilCheck (.inl rfl) rfl rfl ?_
        refine AtL.fieldAddrB tf_fo61_0 (.inl rfl) rfl rfl rfl ?_
        refine AtL.load tf_flat59 (.inl rfl) rfl rfl (Cell.own 1 0 rfl rfl rfl) ?_
        refine AtL.move (.inl rfl) rfl rfl ?_
        have hleo15 := Own.le_cap z.own
        refine AtL.sliceO ((oneF hh z.l).n) z.l.length z.C z.own (evBound_some rfl rfl) rfl rfl (by intro h; cases h) (by omega) (by omega) (by omega) (Nat.le_refl _) Try.underlying59 tf_sz5 (.inl rfl) rfl rfl ?_
        intro A13 C14 o15
        clear hleo15
        have hlo15 : (subl z.l ((oneF hh z.l).n) z.l.length).length = z.l.length - ((oneF hh z.l).n) := subl_len (by omega)
        refine AtL.nilCheck (.inl rfl) rfl rfl ?_
        refine AtL.fieldAddrB tf_fo61_0 (.inl rfl) rfl rfl rfl ?_
        refine AtL.store (H' := z.s :: [(b, .cells #[.slice A13 (subl z.l ((oneF hh z.l).n) z.l.length).length C14, .bool ((oneF hh z.l).h), .bool ((oneF hh z.l).off), .bool false, .bool gr, .bool sh] 61 (0, 0))] :: s11 :: H) 1 0 tf_sz59 (.inl rfl) rfl rfl rfl rfl rfl rfl rfl rfl rfl ?_
        refine AtL.done ?_
        refine At.seq ?_
        refine At.seq ?_
        refine At.region ?_
        refine AtL.move (.inl rfl) rfl rfl ?_
        refine AtL.nilCheck (.inl rfl) rfl rfl ?_
        refine AtL.fieldAddrB tf_fo61_2 (.inl rfl) rfl rfl rfl ?_
        refine AtL.load tf_flat4 (.inl rfl) rfl rfl (Cell.own 1 0 rfl rfl rfl) ?_
        refine AtL.done ?_
        refine At.cond rfl ?_ ?_
        · intro hc3
          have hc3 : ((oneF hh z.l).off) = true := hc3
          refine At.region ?_
          refine AtL.move (.inl rfl) rfl rfl ?_
          refine AtL.nilCheck (.inl rfl) rfl rfl ?_
          refine AtL.fieldAddrB tf_fo61_0 (.inl rfl) rfl rfl rfl ?_
          refine AtL.store (H' := z.s :: [(b, .cells #[.slice none 0 0, .bool ((oneF hh z.l).h), .bool ((oneF hh z.l).off), .bool false, .bool gr, .bool sh] 61 (0, 0))] :: s11 :: H) 1 0 tf_sz59 (.inl rfl) rfl rfl rfl rfl rfl rfl rfl rfl rfl ?_
          refine AtL.done ?_
          refine At.seq ?_
          refine At.region ?_
          refine AtL.move (.inl rfl) rfl rfl ?_
          refine AtL.eqi (.inl rfl) rfl rfl rfl ?_
          refine AtL.move (.inl rfl) rfl rfl ?_
          refine AtL.join 5 (E' := [(72, .bool (decide ((((oneF hh z.l).n : Int) = 0) ∨ (((oneF hh z.l).off) = true)))), (0, .pointer (some ⟨b, 0, none⟩)), (6, .slice A9 (x.l ++ ((oneF hh z.l).x)).length C10)]) (H' := z.s :: [(b, .cells #[.slice none 0 0, .bool ((oneF hh z.l).h), .bool ((oneF hh z.l).off), .bool false, .bool gr, .bool sh] 61 (0, 0))] :: s11 :: H) (fun J => ?_) ?_
          · refine AtL.split (t := 67) rfl ?_ ?_
            · intro hs67
              have hs67 : ((oneF hh z.l).n : Int) = 0 := of_decide_eq_true hs67
              refine AtL.skipped rfl rfl rfl rfl rfl rfl ?_
              refine AtL.skipped rfl rfl rfl rfl rfl rfl ?_
              refine AtL.skipped rfl rfl rfl rfl rfl rfl ?_
              refine AtL.skipped rfl rfl rfl rfl rfl rfl ?_
              refine AtL.pickT (.inl rfl) rfl rfl rfl ?_
              exact J _ (by exact ⟨(boolIs (by clear J; first | (simp [hs67]; done) | (simp_all; done) | grind)), rfl, rfl, trivial⟩)
            · intro hs67
              have hs67 : ¬ (((oneF hh z.l).n : Int) = 0) := of_decide_eq_false hs67
              refine AtL.move (.inr ⟨_, _, _, rfl, rfl, rfl, rfl⟩) rfl rfl ?_
              refine AtL.nilCheck (.inr ⟨_, _, _, rfl, rfl, rfl, rfl⟩) rfl rfl ?_
              refine AtL.fieldAddrB tf_fo61_2 (.inr ⟨_, _, _, rfl, rfl, rfl, rfl⟩) rfl rfl rfl ?_
              refine AtL.load tf_flat4 (.inr ⟨_, _, _, rfl, rfl, rfl, rfl⟩) rfl rfl (Cell.own 1 0 rfl rfl rfl) ?_
              refine AtL.pickF (.inl rfl) rfl rfl rfl ?_
              exact J _ (by exact ⟨(boolIs (by clear J; first | (simp [hs67]; done) | (simp_all; done) | grind)), rfl, rfl, trivial⟩)
          · skip
            refine AtL.done ?_
            refine At.condIs true rfl (by simp [hc3]) ?_
            refine At.seq ?_
            refine At.region ?_
            refine AtL.move (.inl rfl) rfl rfl ?_
            refine AtL.assign (.inl rfl) rfl rfl ?_
            refine AtL.assign (.inl rfl) rfl rfl ?_
            refine AtL.done ?_
            refine At.nil ?_
            refine At.pick (H' := s11 :: [] :: [(b, .cells #[.slice none 0 0, .bool ((oneF hh z.l).h), .bool ((oneF hh z.l).off), .bool false, .bool gr, .bool sh] 61 (0, 0))] :: H) [3, 0, 2] 4 rfl rfl ?_
            have hp : pushS hello false false y.l l = pushF hello (y.l ++ l) := by rw [pushS, if_neg (by simp)]
            have hq : brokeS hello false false y.l l = decide ((pushF hello (y.l ++ l)).e ≠ 0) := by rw [brokeS, if_neg (by simp)]
            rw [hp, hq, ← hI, told_off (by omega) hc3]
            exact At.ret Try.func53 rfl rfl (⟨⟨A9, C10, x.l ++ ((oneF hh z.l).x), s11, o12⟩, Sl.nil, rfl, rfl, rfl, by rw [hc3]; rfl⟩)
        · intro hc3
          have hc3 : ((oneF hh z.l).off) = false := hc3
          rw [hc3]
          refine At.skip ?_
          refine At.seq ?_
          refine At.region ?_
          refine AtL.move (.inl rfl) rfl rfl ?_
          refine AtL.eqi (.inl rfl) rfl rfl rfl ?_
          refine AtL.move (.inl rfl) rfl rfl ?_
          refine AtL.join 5 (E' := [(72, .bool (decide (((oneF hh z.l).n : Int) = 0))), (0, .pointer (some ⟨b, 0, none⟩)), (6, .slice A9 (x.l ++ ((oneF hh z.l).x)).length C10)]) (H' := z.s :: [(b, .cells #[.slice A13 (subl z.l ((oneF hh z.l).n) z.l.length).length C14, .bool ((oneF hh z.l).h), .bool false, .bool false, .bool gr, .bool sh] 61 (0, 0))] :: s11 :: H) (fun J => ?_) ?_
          · refine AtL.split (t := 67) rfl ?_ ?_
            · intro hs67
              have hs67 : ((oneF hh z.l).n : Int) = 0 := of_decide_eq_true hs67
              refine AtL.skipped rfl rfl rfl rfl rfl rfl ?_
              refine AtL.skipped rfl rfl rfl rfl rfl rfl ?_
              refine AtL.skipped rfl rfl rfl rfl rfl rfl ?_
              refine AtL.skipped rfl rfl rfl rfl rfl rfl ?_
              refine AtL.pickT (.inl rfl) rfl rfl rfl ?_
              exact J _ (by exact ⟨(boolIs (by clear J; first | (simp [hs67]; done) | (simp_all; done) | grind)), rfl, rfl, trivial⟩)
            · intro hs67
              have hs67 : ¬ (((oneF hh z.l).n : Int) = 0) := of_decide_eq_false hs67
              refine AtL.move (.inr ⟨_, _, _, rfl, rfl, rfl, rfl⟩) rfl rfl ?_
              refine AtL.nilCheck (.inr ⟨_, _, _, rfl, rfl, rfl, rfl⟩) rfl rfl ?_
              refine AtL.fieldAddrB tf_fo61_2 (.inr ⟨_, _, _, rfl, rfl, rfl, rfl⟩) rfl rfl rfl ?_
              refine AtL.load tf_flat4 (.inr ⟨_, _, _, rfl, rfl, rfl, rfl⟩) rfl rfl (Cell.own 1 0 rfl rfl rfl) ?_
              refine AtL.pickF (.inl rfl) rfl rfl rfl ?_
              exact J _ (by exact ⟨(boolIs (by clear J; first | (simp [hs67]; done) | (simp_all; done) | grind)), rfl, rfl, trivial⟩)
          · skip
            refine AtL.done ?_
            refine At.cond rfl ?_ ?_
            · intro hc4
              have hc4 : ((oneF hh z.l).n : Int) = 0 := of_decide_eq_true hc4
              refine At.seq ?_
              refine At.region ?_
              refine AtL.move (.inl rfl) rfl rfl ?_
              refine AtL.assign (.inl rfl) rfl rfl ?_
              refine AtL.assign (.inl rfl) rfl rfl ?_
              refine AtL.done ?_
              refine At.pick (H' := s11 :: z.s :: [(b, .cells #[.slice A13 (subl z.l ((oneF hh z.l).n) z.l.length).length C14, .bool ((oneF hh z.l).h), .bool false, .bool false, .bool gr, .bool sh] 61 (0, 0))] :: H) [2, 0, 1] 3 rfl rfl ?_
              have hp : pushS hello false false y.l l = pushF hello (y.l ++ l) := by rw [pushS, if_neg (by simp)]
              have hq : brokeS hello false false y.l l = decide ((pushF hello (y.l ++ l)).e ≠ 0) := by rw [brokeS, if_neg (by simp)]
              have hn0 : (oneF hh z.l).n = 0 := by simpa [hc3] using hc4
              rw [hp, hq, ← hI, told_none (by omega) hc3 hn0]
              exact At.ret Try.func53 rfl rfl (⟨⟨A9, C10, x.l ++ ((oneF hh z.l).x), s11, o12⟩, ⟨A13, C14, subl z.l ((oneF hh z.l).n) z.l.length, z.s, o15⟩, by show x.l ++ _ = x.l; rw [hn.2.2.1 hn0, List.append_nil], by show subl _ _ _ = z.l; rw [hn0, subl_drop]; rfl, rfl, rfl⟩)
            · intro hc4
              have hc4 : ¬ (((oneF hh z.l).n : Int) = 0) := of_decide_eq_false hc4
              refine At.skip ?_
              refine At.inBlock ?_
              refine At.pick (H' := s11 :: z.s :: [(b, .cells #[.slice A13 (subl z.l ((oneF hh z.l).n) z.l.length).length C14, .bool ((oneF hh z.l).h), .bool false, .bool false, .bool gr, .bool sh] 61 (0, 0))] :: H) [2, 0, 1] 3 rfl rfl ?_
              exact ihL1 (⟨A9, C10, x.l ++ ((oneF hh z.l).x), s11, o12⟩) (⟨A13, C14, subl z.l ((oneF hh z.l).n) z.l.length, z.s, o15⟩) ((oneF hh z.l).h) (⟨by rw [← hI, told_more hc2 hc3 (by omega)]; congr 1; exact subl_drop _ _, by simp [subl_drop]; omega⟩) (by simp [subl_drop]; omega) _ (by exact ⟨rfl, (by first | rfl | exact slLen (by simp []) | exact intEq (by omega) | exact intEq (by simp []) | exact slLen (by simp []; omega)), trivial⟩)

end Go.Proofs.Ytllfgcekebafhaa
