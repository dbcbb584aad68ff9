/- Requests: Target. -/
import Derived.Test.YtlkdmbpbjhjkfaaGreatDoorA1
namespace Go.Proofs.YtlkdmbpbjhjkfaaGreatDoor
set_option linter.unusedVariables false
set_option linter.unusedSimpArgs false
set_option maxRecDepth 100000

/-- P16.4: the target of a message. -/
def TPRE : List UInt8 := [47, 100, 110, 115, 45, 113, 117, 101, 114, 121, 63, 100, 110, 115, 61]
def targetF16 (b : List UInt8) : List UInt8 × Bool := if b.length < 12 ∨ 2048 < b.length then ([], false) else if 2048 < (TPRE ++ encB b).length then ([], false) else (TPRE ++ encB b, true)
theorem target_few {b : List UInt8} (h : b.length < 12 ∨ 2048 < b.length) : targetF16 b = ([], false) := by rw [targetF16, if_pos h]
theorem target_long {b : List UInt8} (h : ¬ (b.length < 12 ∨ 2048 < b.length)) (h2 : 2048 < (TPRE ++ encB b).length) : targetF16 b = ([], false) := by rw [targetF16, if_neg h, if_pos h2]
theorem tgt_ok {b : List UInt8} (h : ¬ (b.length < 12 ∨ 2048 < b.length)) (h2 : ¬ 2048 < (TPRE ++ encB b).length) : targetF16 b = (TPRE ++ encB b, true) := by rw [targetF16, if_neg h, if_neg h2]
theorem target_300 {b : List UInt8} (h1 : 12 ≤ b.length) (h2 : b.length ≤ 1400) : targetF16 b = (TPRE ++ encB b, true) := by
  refine tgt_ok (by omega) ?_
  rw [List.length_append, encB_len]
  have : TPRE.length = 15 := rfl
  omega

set_option maxHeartbeats 400000 in
theorem target_ok16 {w0 : World} {base : Nat} {H : List Seg} {A : Option Addr} {C : Nat} {b : List UInt8} (h : Rd tyB w0 base H A C b) :
    SCalls Tryz.prog 16 [.slice A b.length C] w0 base (H) (fun v H' => v = .tuple #[str (targetF16 b).1, .bool (targetF16 b).2] ∧ H' = H) := by
  have hle0 := h.le
  have hcap0 := h.cap
  refine SCalls.of_walk (n := 20) Tryz.func16 rfl rfl rfl fun cs => ?_
  refine At.seq ?_
  refine At.region ?_
  refine AtL.assign (.inl rfl) rfl rfl ?_
  refine AtL.assign (.inl rfl) rfl rfl ?_
  refine AtL.done ?_
  refine At.seq ?_
  refine At.seq ?_
  refine At.region ?_
  refine AtL.move (.inl rfl) rfl rfl ?_
  refine AtL.lenL Tryz.underlying22 (.inl rfl) rfl rfl ?_
  refine AtL.lss (.inl rfl) rfl rfl rfl ?_
  refine AtL.move (.inl rfl) rfl rfl ?_
  refine AtL.join 4 (E' := [(12, .bool (decide (((b.length : Int) < 12) ∨ (2048 < (b.length : Int))))), (0, .slice A b.length C)]) (H' := H) (fun J => ?_) ?_
  · refine AtL.split (t := 8) rfl ?_ ?_
    · intro hs8
      have hs8 : (b.length : Int) < 12 := of_decide_eq_true hs8
      refine AtL.skipped rfl rfl rfl rfl rfl rfl ?_
      refine AtL.skipped rfl rfl rfl rfl rfl rfl ?_
      refine AtL.skipped rfl rfl rfl rfl rfl rfl ?_
      refine AtL.pickT (.inl rfl) rfl rfl rfl ?_
      exact J _ (by exact ⟨(boolIs (by clear J; first | (simp [hs8]; done) | (simp_all; done) | grind)), rfl, trivial⟩)
    · intro hs8
      have hs8 : ¬ ((b.length : Int) < 12) := of_decide_eq_false hs8
      refine AtL.move (.inr ⟨_, _, _, rfl, rfl, rfl, rfl⟩) rfl rfl ?_
      refine AtL.lenL Tryz.underlying22 (.inr ⟨_, _, _, rfl, rfl, rfl, rfl⟩) rfl rfl ?_
      refine AtL.gtr (.inr ⟨_, _, _, rfl, rfl, rfl, rfl⟩) rfl rfl rfl ?_
      refine AtL.pickF (.inl rfl) rfl rfl rfl ?_
      exact J _ (by exact ⟨(boolIs (by clear J; first | (simp [hs8]; done) | (simp_all; done) | grind)), rfl, trivial⟩)
  · skip
    refine AtL.done ?_
    refine At.cond rfl ?_ ?_
    · intro hc1
      have hc1 : ((b.length : Int) < 12) ∨ (2048 < (b.length : Int)) := of_decide_eq_true hc1
      refine At.seq ?_
      refine At.region ?_
      refine AtL.assign (.inl rfl) rfl rfl ?_
      refine AtL.assign (.inl rfl) rfl rfl ?_
      refine AtL.done ?_
      exact At.ret Tryz.func16 rfl rfl (⟨by rw [target_few (by omega)]; rfl, rfl⟩)
    · intro hc1
      have hc1 : ¬ (((b.length : Int) < 12) ∨ (2048 < (b.length : Int))) := of_decide_eq_false hc1
      have hel := encB_len b
      refine At.skip ?_
      refine At.seq ?_
      refine At.region ?_
      refine AtL.move (.inl rfl) rfl rfl ?_
      refine AtL.call tf_body45 (.inl rfl) rfl rfl (b64enc_ok (b := b) h (by omega) (by omega)) ?_
      rintro _ _ ⟨rfl, hHq⟩
      obtain rfl := hHq.symm
      refine AtL.cat (.inl rfl) rfl rfl rfl (by simp only [List.length_cons, List.length_nil]; omega) ?_
      refine AtL.assign (.inl rfl) rfl rfl ?_
      refine AtL.done ?_
      refine At.seq ?_
      refine At.seq ?_
      refine At.region ?_
      refine AtL.move (.inl rfl) rfl rfl ?_
      refine AtL.lenS (l := [47, 100, 110, 115, 45, 113, 117, 101, 114, 121, 63, 100, 110, 115, 61] ++ (encB b)) Tryz.underlying9 (.inl rfl) rfl rfl ?_
      refine AtL.gtr (.inl rfl) rfl rfl rfl ?_
      refine AtL.done ?_
      refine At.cond rfl ?_ ?_
      · intro hc2
        have hc2 : 2048 < (([47, 100, 110, 115, 45, 113, 117, 101, 114, 121, 63, 100, 110, 115, 61] ++ (encB b)).length : Int) := of_decide_eq_true hc2
        refine At.seq ?_
        refine At.region ?_
        refine AtL.assign (.inl rfl) rfl rfl ?_
        refine AtL.assign (.inl rfl) rfl rfl ?_
        refine AtL.done ?_
        exact At.ret Tryz.func16 rfl rfl (⟨by rw [target_long (by omega) (by have h2 := hc2; show 2048 < (TPRE ++ encB b).length; exact Int.ofNat_lt.1 h2)]; rfl, rfl⟩)
      · intro hc2
        have hc2 : ¬ (2048 < (([47, 100, 110, 115, 45, 113, 117, 101, 114, 121, 63, 100, 110, 115, 61] ++ (encB b)).length : Int)) := of_decide_eq_false hc2
        refine At.skip ?_
        refine At.seq ?_
        refine At.region ?_
        refine AtL.move (.inl rfl) rfl rfl ?_
        refine AtL.assign (.inl rfl) rfl rfl ?_
        refine AtL.assign (.inl rfl) rfl rfl ?_
        refine AtL.done ?_
        exact At.ret Tryz.func16 rfl rfl (⟨by rw [tgt_ok (by omega) (by intro h2; exact hc2 (Int.ofNat_lt.2 h2))]; rfl, rfl⟩)

set_option maxHeartbeats 400000 in
theorem rtarget_ok16 {w0 : World} {base : Nat} {H : List Seg} {A : Option Addr} {C : Nat} {b : List UInt8} (h : Rd tyB w0 base H A C b) :
    SCalls Tryz.prog 17 [.slice A b.length C] w0 base (H) (fun v H' => v = .tuple #[str (targetF16 b).1, .bool (targetF16 b).2] ∧ H' = H) := by
  have hle0 := h.le
  have hcap0 := h.cap
  refine SCalls.of_walk (n := 20) Tryz.func17 rfl rfl rfl fun cs => ?_
  refine At.seq ?_
  refine At.region ?_
  refine AtL.assign (.inl rfl) rfl rfl ?_
  refine AtL.assign (.inl rfl) rfl rfl ?_
  refine AtL.done ?_
  refine At.seq ?_
  refine At.seq ?_
  refine At.region ?_
  refine AtL.move (.inl rfl) rfl rfl ?_
  refine AtL.lenL Tryz.underlying22 (.inl rfl) rfl rfl ?_
  refine AtL.lss (.inl rfl) rfl rfl rfl ?_
  refine AtL.move (.inl rfl) rfl rfl ?_
  refine AtL.join 4 (E' := [(12, .bool (decide (((b.length : Int) < 12) ∨ (2048 < (b.length : Int))))), (0, .slice A b.length C)]) (H' := H) (fun J => ?_) ?_
  · refine AtL.split (t := 8) rfl ?_ ?_
    · intro hs8
      have hs8 : (b.length : Int) < 12 := of_decide_eq_true hs8
      refine AtL.skipped rfl rfl rfl rfl rfl rfl ?_
      refine AtL.skipped rfl rfl rfl rfl rfl rfl ?_
      refine AtL.skipped rfl rfl rfl rfl rfl rfl ?_
      refine AtL.pickT (.inl rfl) rfl rfl rfl ?_
      exact J _ (by exact ⟨(boolIs (by clear J; first | (simp [hs8]; done) | (simp_all; done) | grind)), rfl, trivial⟩)
    · intro hs8
      have hs8 : ¬ ((b.length : Int) < 12) := of_decide_eq_false hs8
      refine AtL.move (.inr ⟨_, _, _, rfl, rfl, rfl, rfl⟩) rfl rfl ?_
      refine AtL.lenL Tryz.underlying22 (.inr ⟨_, _, _, rfl, rfl, rfl, rfl⟩) rfl rfl ?_
      refine AtL.gtr (.inr ⟨_, _, _, rfl, rfl, rfl, rfl⟩) rfl rfl rfl ?_
      refine AtL.pickF (.inl rfl) rfl rfl rfl ?_
      exact J _ (by exact ⟨(boolIs (by clear J; first | (simp [hs8]; done) | (simp_all; done) | grind)), rfl, trivial⟩)
  · skip
    refine AtL.done ?_
    refine At.cond rfl ?_ ?_
    · intro hc1
      have hc1 : ((b.length : Int) < 12) ∨ (2048 < (b.length : Int)) := of_decide_eq_true hc1
      refine At.seq ?_
      refine At.region ?_
      refine AtL.assign (.inl rfl) rfl rfl ?_
      refine AtL.assign (.inl rfl) rfl rfl ?_
      refine AtL.done ?_
      exact At.ret Tryz.func17 rfl rfl (⟨by rw [target_few (by omega)]; rfl, rfl⟩)
    · intro hc1
      have hc1 : ¬ (((b.length : Int) < 12) ∨ (2048 < (b.length : Int))) := of_decide_eq_false hc1
      have hel := encB_len b
      refine At.skip ?_
      refine At.seq ?_
      refine At.region ?_
      refine AtL.move (.inl rfl) rfl rfl ?_
      refine AtL.call tf_body46 (.inl rfl) rfl rfl (renc_ok h (by omega)) ?_
      rintro _ _ ⟨rfl, hHq⟩
      obtain rfl := hHq.symm
      refine AtL.cat (.inl rfl) rfl rfl rfl (by simp only [List.length_cons, List.length_nil]; omega) ?_
      refine AtL.assign (.inl rfl) rfl rfl ?_
      refine AtL.done ?_
      refine At.seq ?_
      refine At.seq ?_
      refine At.region ?_
      refine AtL.move (.inl rfl) rfl rfl ?_
      refine AtL.lenS (l := [47, 100, 110, 115, 45, 113, 117, 101, 114, 121, 63, 100, 110, 115, 61] ++ (encB b)) Tryz.underlying9 (.inl rfl) rfl rfl ?_
      refine AtL.gtr (.inl rfl) rfl rfl rfl ?_
      refine AtL.done ?_
      refine At.cond rfl ?_ ?_
      · intro hc2
        have hc2 : 2048 < (([47, 100, 110, 115, 45, 113, 117, 101, 114, 121, 63, 100, 110, 115, 61] ++ (encB b)).length : Int) := of_decide_eq_true hc2
        refine At.seq ?_
        refine At.region ?_
        refine AtL.assign (.inl rfl) rfl rfl ?_
        refine AtL.assign (.inl rfl) rfl rfl ?_
        refine AtL.done ?_
        exact At.ret Tryz.func17 rfl rfl (⟨by rw [target_long (by omega) (by have h2 := hc2; show 2048 < (TPRE ++ encB b).length; exact Int.ofNat_lt.1 h2)]; rfl, rfl⟩)
      · intro hc2
        have hc2 : ¬ (2048 < (([47, 100, 110, 115, 45, 113, 117, 101, 114, 121, 63, 100, 110, 115, 61] ++ (encB b)).length : Int)) := of_decide_eq_false hc2
        refine At.skip ?_
        refine At.seq ?_
        refine At.region ?_
        refine AtL.move (.inl rfl) rfl rfl ?_
        refine AtL.assign (.inl rfl) rfl rfl ?_
        refine AtL.assign (.inl rfl) rfl rfl ?_
        refine AtL.done ?_
        exact At.ret Tryz.func17 rfl rfl (⟨by rw [tgt_ok (by omega) (by intro h2; exact hc2 (Int.ofNat_lt.2 h2))]; rfl, rfl⟩)

end Go.Proofs.YtlkdmbpbjhjkfaaGreatDoor
