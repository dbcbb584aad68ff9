/- PipeRecords, walked. -/
import Derived.Test.YtllfgcekebafhaaP9
namespace Go.Proofs.Ytllfgcekebafhaa
set_option linter.unusedVariables false
set_option linter.unusedSimpArgs false
set_option maxRecDepth 100000

set_option maxHeartbeats 400000 in
theorem records_ok {w0 : World} {base : Nat} {H : List Seg} {A : Option Addr} {C : Nat} {l : List UInt8} (h : Rd tyB w0 base H A C l) (k : Int) :
    SCalls Try.prog 3 [.int .i64 k, .slice A l.length C] w0 base (H) (fun v H' => v = .bool true ∧ H' = H) := by
  refine SCalls.of_walk (n := 48) Try.func3 rfl rfl rfl fun cs => ?_
  refine At.seq ?_
  refine At.region ?_
  refine AtL.assign (.inl rfl) rfl rfl ?_
  refine AtL.done ?_
  refine At.seq ?_
  refine At.seq ?_
  refine At.region ?_
  refine AtL.move (.inl rfl) rfl rfl ?_
  refine AtL.lenL Try.underlying22 (.inl rfl) rfl rfl ?_
  refine AtL.gtr (.inl rfl) rfl rfl rfl ?_
  refine AtL.done ?_
  refine At.cond rfl ?_ ?_
  · intro hc1
    have hc1 : 2000 < (l.length : Int) := of_decide_eq_true hc1
    refine At.seq ?_
    refine At.region ?_
    refine AtL.call tf_body9 (.inl rfl) rfl rfl awake_ok ?_
    rintro _ _ ⟨rfl, hHq⟩
    obtain rfl := hHq.symm
    refine AtL.assign (.inl rfl) rfl rfl ?_
    refine AtL.done ?_
    exact At.ret Try.func3 rfl rfl (⟨rfl, rfl⟩)
  · intro hc1
    have hc1 : ¬ (2000 < (l.length : Int)) := of_decide_eq_false hc1
    refine At.skip ?_
    refine At.seq ?_
    refine At.region ?_
    refine AtL.move (.inl rfl) rfl rfl ?_
    refine AtL.call tf_body10 (.inl rfl) rfl rfl (lent_ok (l := l) h (by omega)) ?_
    rintro _ _ ⟨A1, s2, o3, rfl, rfl⟩
    refine AtL.assign (.inl rfl) rfl rfl ?_
    refine AtL.done ?_
    refine At.seq ?_
    refine At.region ?_
    refine AtL.move (.inl rfl) rfl rfl ?_
    refine AtL.move (.inl rfl) rfl rfl ?_
    refine AtL.call tf_body11 (.inl rfl) rfl rfl (rec_ok (l := l) (OwnR.rd o3 (i := 0) rfl) (by first | omega | (simp only [List.length_append, List.length_cons, List.length_nil]; omega) | (simp; done) | (simp; omega)) k) ?_
    rintro _ _ ⟨A4, C5, s6, l8, o7, hl9, rfl, rfl⟩
    refine AtL.move (.inl rfl) rfl rfl ?_
    refine AtL.extract (.inl rfl) rfl rfl rfl ?_
    refine AtL.extract (.inl rfl) rfl rfl rfl ?_
    refine AtL.assign (.inl rfl) rfl rfl ?_
    refine AtL.assign (.inl rfl) rfl rfl ?_
    refine AtL.done ?_
    refine At.seq ?_
    refine At.region ?_
    refine AtL.move (.inl rfl) rfl rfl ?_
    refine AtL.move (.inl rfl) rfl rfl ?_
    refine AtL.call tf_body12 (.inl rfl) rfl rfl (rrec_ok (l := l) (Rd.skip 2 h) (by first | omega | (simp only [List.length_append, List.length_cons, List.length_nil]; omega) | (simp; done) | (simp; omega)) k) ?_
    rintro _ _ ⟨A10, C11, s12, l14, o13, hl15, rfl, rfl⟩
    refine AtL.move (.inl rfl) rfl rfl ?_
    refine AtL.extract (.inl rfl) rfl rfl rfl ?_
    refine AtL.extract (.inl rfl) rfl rfl rfl ?_
    refine AtL.assign (.inl rfl) rfl rfl ?_
    refine AtL.assign (.inl rfl) rfl rfl ?_
    refine AtL.done ?_
    refine At.seq ?_
    refine At.region ?_
    refine AtL.move (.inl rfl) rfl rfl ?_
    refine AtL.move (.inl rfl) rfl rfl ?_
    refine AtL.eqi (.inl rfl) rfl rfl rfl ?_
    refine AtL.move (.inl rfl) rfl rfl ?_
    refine AtL.split (t := 32) rfl ?_ ?_
    · intro hs32
      have hs32 : (recE k l : Int) = (recE k l) := of_decide_eq_true hs32
      refine AtL.move (.inr ⟨_, _, _, rfl, rfl, rfl, rfl⟩) rfl rfl ?_
      refine AtL.move (.inr ⟨_, _, _, rfl, rfl, rfl, rfl⟩) rfl rfl ?_
      refine AtL.call tf_body13 (.inr ⟨_, _, _, rfl, rfl, rfl, rfl⟩) rfl rfl (same_ok (l := l8) (l2 := l14) (o7.rd (i := 1) rfl) (o13.rd (i := 0) rfl)) ?_
      rintro _ _ ⟨rfl, rfl⟩
      refine AtL.pickT (.inl rfl) rfl rfl rfl ?_
      refine AtL.assign (.inl rfl) rfl rfl ?_
      refine AtL.done ?_
      refine At.seq ?_
      refine At.region ?_
      refine AtL.move (.inl rfl) rfl rfl ?_
      refine AtL.pick (H' := s6 :: s12 :: s2 :: H) [1, 0, 2] 3 rfl rfl ?_
      refine AtL.call tf_body14 (.inl rfl) rfl rfl (over_own o7) ?_
      rintro _ _ ⟨s16, rfl, rfl⟩
      refine AtL.done ?_
      refine At.seq ?_
      refine At.region ?_
      refine AtL.move (.inl rfl) rfl rfl ?_
      refine AtL.move (.inl rfl) rfl rfl ?_
      refine AtL.split (t := 40) rfl ?_ ?_
      · intro hs40
        have hs40 : l8 = l14 := of_decide_eq_true hs40
        refine AtL.move (.inr ⟨_, _, _, rfl, rfl, rfl, rfl⟩) rfl rfl ?_
        refine AtL.move (.inr ⟨_, _, _, rfl, rfl, rfl, rfl⟩) rfl rfl ?_
        refine AtL.pick (H' := s2 :: s16 :: s12 :: H) [2, 0, 1] 3 rfl rfl ?_
        refine AtL.call tf_body15 (.inr ⟨_, _, _, rfl, rfl, rfl, rfl⟩) rfl rfl (kept_ok o3 (Rd.skip 2 h) (by omega)) ?_
        rintro _ _ ⟨s17, rfl, rfl⟩
        refine AtL.pickT (.inl rfl) rfl rfl rfl ?_
        refine AtL.move (.inl rfl) rfl rfl ?_
        refine AtL.call tf_body9 (.inr ⟨_, _, _, rfl, rfl, rfl, rfl⟩) rfl rfl awake_ok ?_
        rintro _ _ ⟨rfl, rfl⟩
        refine AtL.pickT (.inl rfl) rfl rfl rfl ?_
        refine AtL.assign (.inl rfl) rfl rfl ?_
        refine AtL.done ?_
        refine At.pick (H' := H) [] 4 rfl rfl ?_
        exact At.ret Try.func3 rfl rfl (⟨rfl, rfl⟩)
      · intro hs40
        have hs40 : ¬ (l8 = l14) := of_decide_eq_false hs40
        exact absurd (hl9.trans hl15.symm) hs40
    · intro hs32
      have hs32 : ¬ ((recE k l : Int) = (recE k l)) := of_decide_eq_false hs32
      exact absurd rfl hs32

end Go.Proofs.Ytllfgcekebafhaa
