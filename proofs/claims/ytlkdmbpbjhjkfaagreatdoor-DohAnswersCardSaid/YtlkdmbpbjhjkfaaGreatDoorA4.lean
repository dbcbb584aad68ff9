/- DohAnswers: the walk. -/
import Derived.Test.YtlkdmbpbjhjkfaaGreatDoorA3
import Derived.Test.YtlkdmbpbjhjkfaaGreatDoorE9
namespace Go.Proofs.YtlkdmbpbjhjkfaaGreatDoor
set_option linter.unusedVariables false
set_option linter.unusedSimpArgs false
set_option maxRecDepth 100000

set_option maxHeartbeats 400000 in
theorem dohanswers_ok {w0 : World} {base : Nat} {H : List Seg} {A : Option Addr} {C : Nat} {b : List UInt8} (h : Rd tyB w0 base H A C b) (age : Int) (kp : Bool) (T : Tabs w0 base) (T10 : Tab10 w0 base) :
    SCalls Tryz.prog 3 [.slice A b.length C, .int .i64 age, .bool kp] w0 base (H) (fun v H' => v = .bool true ∧ H' = H) := by
  have hle0 := h.le
  have hcap0 := h.cap
  refine SCalls.of_walk (n := 76) Tryz.func3 rfl rfl rfl fun cs => ?_
  refine At.seq ?_
  refine At.region ?_
  refine AtL.assign (.inl rfl) rfl rfl ?_
  refine AtL.done ?_
  refine At.seq ?_
  refine At.seq ?_
  refine At.region ?_
  refine AtL.move (.inl rfl) rfl rfl ?_
  refine AtL.lenL Tryz.underlying22 (.inl rfl) rfl rfl ?_
  refine AtL.gtr (.inl rfl) rfl rfl rfl ?_
  refine AtL.done ?_
  refine At.cond rfl ?_ ?_
  · intro hc1
    have hc1 : 70000 < (b.length : Int) := of_decide_eq_true hc1
    refine At.seq ?_
    refine At.region ?_
    refine AtL.call tf_body12 (.inl rfl) rfl rfl (awake16_ok T) ?_
    rintro _ _ ⟨rfl, hHq⟩
    obtain rfl := hHq.symm
    refine AtL.assign (.inl rfl) rfl rfl ?_
    refine AtL.done ?_
    exact At.ret Tryz.func3 rfl rfl (⟨rfl, rfl⟩)
  · intro hc1
    have hc1 : ¬ (70000 < (b.length : Int)) := of_decide_eq_false hc1
    refine At.skip ?_
    refine At.seq ?_
    refine At.region ?_
    refine AtL.move (.inl rfl) rfl rfl ?_
    refine AtL.call tf_body13 (.inl rfl) rfl rfl (lent_ok (l := b) h (by omega)) ?_
    rintro _ _ ⟨A1, s2, o3, rfl, rfl⟩
    refine AtL.assign (.inl rfl) rfl rfl ?_
    refine AtL.done ?_
    refine At.seq ?_
    refine At.region ?_
    refine AtL.move (.inl rfl) rfl rfl ?_
    refine AtL.move (.inl rfl) rfl rfl ?_
    refine AtL.move (.inl rfl) rfl rfl ?_
    refine AtL.call tf_body14 (.inl rfl) rfl rfl (answer_ok16 (b := b) (OwnR.rd o3 (i := 0) rfl) (by omega) age kp T10) ?_
    rintro _ _ ⟨⟨A4, C5, l6, s7, o8⟩, hx9, rfl, rfl⟩
    obtain rfl : (ansF b age kp).1 = l6 := hx9.symm
    refine AtL.move (.inl rfl) rfl rfl ?_
    refine AtL.extract (.inl rfl) rfl rfl rfl ?_
    refine AtL.extract (.inl rfl) rfl rfl rfl ?_
    refine AtL.assign (.inl rfl) rfl rfl ?_
    refine AtL.assign (.inl rfl) rfl rfl ?_
    refine AtL.done ?_
    refine At.seq ?_
    refine At.region ?_
    refine AtL.move (.inl rfl) rfl rfl ?_
    refine AtL.move (.inl rfl) rfl rfl ?_
    refine AtL.move (.inl rfl) rfl rfl ?_
    refine AtL.call tf_body15 (.inl rfl) rfl rfl (ranswer_ok16 (b := b) (Rd.skip 2 h) (by omega) age kp T10) ?_
    rintro _ _ ⟨⟨A10, C11, l12, s13, o14⟩, hx15, rfl, rfl⟩
    obtain rfl : (ansF b age kp).1 = l12 := hx15.symm
    refine AtL.move (.inl rfl) rfl rfl ?_
    refine AtL.extract (.inl rfl) rfl rfl rfl ?_
    refine AtL.extract (.inl rfl) rfl rfl rfl ?_
    refine AtL.assign (.inl rfl) rfl rfl ?_
    refine AtL.assign (.inl rfl) rfl rfl ?_
    refine AtL.done ?_
    refine At.seq ?_
    refine At.region ?_
    refine AtL.move (.inl rfl) rfl rfl ?_
    refine AtL.call tf_body16 (.inl rfl) rfl rfl (target_ok16 (b := b) (OwnR.rd o3 (i := 2) rfl)) ?_
    rintro _ _ ⟨rfl, rfl⟩
    refine AtL.move (.inl rfl) rfl rfl ?_
    refine AtL.extract (.inl rfl) rfl rfl rfl ?_
    refine AtL.extract (.inl rfl) rfl rfl rfl ?_
    refine AtL.assign (.inl rfl) rfl rfl ?_
    refine AtL.assign (.inl rfl) rfl rfl ?_
    refine AtL.done ?_
    refine At.seq ?_
    refine At.region ?_
    refine AtL.move (.inl rfl) rfl rfl ?_
    refine AtL.call tf_body17 (.inl rfl) rfl rfl (rtarget_ok16 (b := b) (Rd.skip 3 h)) ?_
    rintro _ _ ⟨rfl, rfl⟩
    refine AtL.move (.inl rfl) rfl rfl ?_
    refine AtL.extract (.inl rfl) rfl rfl rfl ?_
    refine AtL.extract (.inl rfl) rfl rfl rfl ?_
    refine AtL.assign (.inl rfl) rfl rfl ?_
    refine AtL.assign (.inl rfl) rfl rfl ?_
    refine AtL.done ?_
    refine At.seq ?_
    refine At.region ?_
    refine AtL.move (.inl rfl) rfl rfl ?_
    refine AtL.move (.inl rfl) rfl rfl ?_
    refine AtL.eqi (.inl rfl) rfl rfl rfl ?_
    refine AtL.move (.inl rfl) rfl rfl ?_
    refine AtL.join 4 (E' := [(54, .bool (decide ((ansF b age kp).1 = (ansF b age kp).1))), (0, .slice A b.length C), (7, .slice A1 b.length (b.length + 3)), (8, .slice A4 ((ansF b age kp).1).length C5), (12, str ((targetF16 b).1)), (13, .bool ((targetF16 b).2)), (14, str ((targetF16 b).1)), (15, .bool ((targetF16 b).2))]) (H' := s13 :: s7 :: s2 :: H) (fun J => ?_) ?_
    · refine AtL.split (t := 50) rfl ?_ ?_
      · intro hs50
        have hs50 : ((ansF b age kp).2 : Int) = ((ansF b age kp).2) := of_decide_eq_true hs50
        refine AtL.move (.inr ⟨_, _, _, rfl, rfl, rfl, rfl⟩) rfl rfl ?_
        refine AtL.move (.inr ⟨_, _, _, rfl, rfl, rfl, rfl⟩) rfl rfl ?_
        refine AtL.call tf_body18 (.inr ⟨_, _, _, rfl, rfl, rfl, rfl⟩) rfl rfl (same_ok (l := (ansF b age kp).1) (l2 := (ansF b age kp).1) (o8.rd (i := 1) rfl) (o14.rd (i := 0) rfl)) ?_
        rintro _ _ ⟨rfl, rfl⟩
        refine AtL.pickT (.inl rfl) rfl rfl rfl ?_
        exact J _ (by exact ⟨(boolIs (by clear J; first | (simp [hs50]; done) | (simp_all; done) | grind)), rfl, rfl, rfl, rfl, rfl, rfl, rfl, trivial⟩)
      · intro hs50
        exact Bool.noConfusion (hs50.symm.trans (decide_eq_true rfl))
    · skip
      refine AtL.move (.inl rfl) rfl rfl ?_
      refine AtL.join 4 (E' := [(59, .bool (decide ((targetF16 b).1 = (targetF16 b).1))), (0, .slice A b.length C), (7, .slice A1 b.length (b.length + 3)), (8, .slice A4 ((ansF b age kp).1).length C5), (13, .bool ((targetF16 b).2)), (15, .bool ((targetF16 b).2))]) (H' := s13 :: s7 :: s2 :: H) (fun J => ?_) ?_
      · refine AtL.split (t := 55) rfl ?_ ?_
        · intro hs55
          have hs55 : (ansF b age kp).1 = (ansF b age kp).1 := of_decide_eq_true hs55
          refine AtL.move (.inr ⟨_, _, _, rfl, rfl, rfl, rfl⟩) rfl rfl ?_
          refine AtL.move (.inr ⟨_, _, _, rfl, rfl, rfl, rfl⟩) rfl rfl ?_
          refine AtL.eqs (a := (targetF16 b).1) (b := (targetF16 b).1) (.inr ⟨_, _, _, rfl, rfl, rfl, rfl⟩) rfl rfl rfl ?_
          refine AtL.pickT (.inl rfl) rfl rfl rfl ?_
          exact J _ (by exact ⟨(boolIs (by clear J; first | (simp [hs55]; done) | (simp_all; done) | grind)), rfl, rfl, rfl, rfl, rfl, trivial⟩)
        · intro hs55
          exact Bool.noConfusion (hs55.symm.trans (decide_eq_true rfl))
      · skip
        refine AtL.move (.inl rfl) rfl rfl ?_
        refine AtL.join 4 (E' := [(64, .bool (((targetF16 b).2) == ((targetF16 b).2))), (0, .slice A b.length C), (7, .slice A1 b.length (b.length + 3)), (8, .slice A4 ((ansF b age kp).1).length C5)]) (H' := s13 :: s7 :: s2 :: H) (fun J => ?_) ?_
        · refine AtL.split (t := 60) rfl ?_ ?_
          · intro hs60
            have hs60 : (targetF16 b).1 = (targetF16 b).1 := of_decide_eq_true hs60
            refine AtL.move (.inr ⟨_, _, _, rfl, rfl, rfl, rfl⟩) rfl rfl ?_
            refine AtL.move (.inr ⟨_, _, _, rfl, rfl, rfl, rfl⟩) rfl rfl ?_
            refine AtL.eqb Tryz.underlying4 (.inr ⟨_, _, _, rfl, rfl, rfl, rfl⟩) rfl rfl rfl ?_
            refine AtL.pickT (.inl rfl) rfl rfl rfl ?_
            exact J _ (by exact ⟨(boolIs (by clear J; first | (simp [hs60]; done) | (simp_all; done) | grind)), rfl, rfl, rfl, trivial⟩)
          · intro hs60
            exact Bool.noConfusion (hs60.symm.trans (decide_eq_true rfl))
        · skip
          refine AtL.assign (.inl rfl) rfl rfl ?_
          refine AtL.done ?_
          refine At.seq ?_
          refine At.region ?_
          refine AtL.move (.inl rfl) rfl rfl ?_
          refine AtL.pick (H' := s7 :: s13 :: s2 :: H) [1, 0, 2] 3 rfl rfl ?_
          refine AtL.call tf_body19 (.inl rfl) rfl rfl (over_own o8) ?_
          rintro _ _ ⟨s16, rfl, rfl⟩
          refine AtL.done ?_
          refine At.seq ?_
          refine At.region ?_
          refine AtL.move (.inl rfl) rfl rfl ?_
          refine AtL.move (.inl rfl) rfl rfl ?_
          refine AtL.join 4 (E' := [(72, .bool true)]) (H' := s16 :: s13 :: s2 :: H) (fun J => ?_) ?_
          · refine AtL.split (t := 68) rfl ?_ ?_
            · intro hs68
              have hs68 : (((targetF16 b).2) == ((targetF16 b).2)) = true := hs68
              refine AtL.move (.inr ⟨_, _, _, rfl, rfl, rfl, rfl⟩) rfl rfl ?_
              refine AtL.move (.inr ⟨_, _, _, rfl, rfl, rfl, rfl⟩) rfl rfl ?_
              refine AtL.pick (H' := s2 :: s16 :: s13 :: H) [2, 0, 1] 3 rfl rfl ?_
              refine AtL.call tf_body20 (.inr ⟨_, _, _, rfl, rfl, rfl, rfl⟩) rfl rfl (kept_ok o3 (Rd.skip 2 h) (by omega)) ?_
              rintro _ _ ⟨s17, rfl, rfl⟩
              refine AtL.pickT (.inl rfl) rfl rfl rfl ?_
              refine AtL.pick (H' := s16 :: s13 :: s2 :: H) [2, 3, 1] 4 rfl rfl ?_
              exact J _ (by exact ⟨rfl, trivial⟩)
            · intro hs68
              exact Bool.noConfusion (hs68.symm.trans (beq_self_eq_true _))
          · skip
            refine AtL.move (.inl rfl) rfl rfl ?_
            refine AtL.call tf_body12 (.inr ⟨_, _, _, rfl, rfl, rfl, rfl⟩) rfl rfl (awake16_ok T) ?_
            rintro _ _ ⟨rfl, rfl⟩
            refine AtL.pickT (.inl rfl) rfl rfl rfl ?_
            refine AtL.assign (.inl rfl) rfl rfl ?_
            refine AtL.done ?_
            refine At.pick (H' := H) [] 3 rfl rfl ?_
            exact At.ret Tryz.func3 rfl rfl (⟨rfl, rfl⟩)

end Go.Proofs.YtlkdmbpbjhjkfaaGreatDoor
