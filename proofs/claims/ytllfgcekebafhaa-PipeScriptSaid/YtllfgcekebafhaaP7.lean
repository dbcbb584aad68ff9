/- The contract of slices.Chunk, as it is ranged over. -/
import Derived.Test.YtllfgcekebafhaaP6
namespace Go.Proofs.Ytllfgcekebafhaa
set_option linter.unusedVariables false
set_option linter.unusedSimpArgs false
set_option maxRecDepth 100000

set_option maxHeartbeats 400000 in
theorem chunk_ok {w0 : World} {base : Nat} {H : List Seg} {A : Option Addr} {C : Nat} {l : List UInt8} (n : Nat) (hn : 1 ≤ n) :
    SCalls Try.prog 58 [.slice A l.length C, .int .i64 (n : Int)] w0 base (H) (fun v H' => ∃ bs bn : Nat, v = .func (.func 62) #[] #[.pointer (some ⟨bs, 0, none⟩), .pointer (some ⟨bn, 0, none⟩)] ∧ H' = [(bn, .cells #[.int .i64 (n : Int)] 3 (0, 0))] :: [(bs, .cells #[.slice A l.length C] 22 (0, 0))] :: H) := by
  refine SCalls.of_walk (n := 9) Try.func58 rfl rfl rfl fun cs => ?_
  refine At.seq ?_
  refine At.region ?_
  refine AtL.box (cs := #[.slice A l.length C]) rfl (.inl rfl) rfl rfl ?_
  intro b1
  refine AtL.box (cs := #[.int .i64 (n : Int)]) rfl (.inl rfl) rfl rfl ?_
  intro b2
  refine AtL.assign (.inl rfl) rfl rfl ?_
  refine AtL.done ?_
  refine At.seq ?_
  refine At.seq ?_
  refine At.region ?_
  refine AtL.load tf_flat3 (.inl rfl) rfl rfl (Cell.own 0 0 rfl rfl rfl) ?_
  refine AtL.lss (.inl rfl) rfl rfl rfl ?_
  refine AtL.done ?_
  refine At.condIs false rfl (decide_eq_false (by omega)) ?_
  refine At.skip ?_
  refine At.seq ?_
  refine At.region ?_
  refine AtL.makeFunc (.inl rfl) rfl rfl rfl ?_
  refine AtL.assign (.inl rfl) rfl rfl ?_
  refine AtL.done ?_
  exact At.ret Try.func58 rfl rfl (⟨_, _, rfl, rfl⟩)

set_option maxHeartbeats 400000 in
theorem chunkit_ok {w0 : World} {base : Nat} {T Hc : List Seg} {A : Option Addr} {C : Nat} {l : List UInt8} (h : Rd tyB w0 base T A C l) (hl : l.length ≤ 140737488355000) (n : Nat) (hn : 1 ≤ n) (hn2 : n ≤ 1073741824) {lp bs bn : Nat} {J : Nat → List Seg → Prop}
    (hY : ∀ i Hc, i < l.length → J i Hc → ∀ T' A' C', Rd tyB w0 base T' A' C' (subl l i (i + min n (l.length - i))) → YCalls Try.prog lp [.slice A' (subl l i (i + min n (l.length - i))).length C'] w0 base (Hc ++ T') (fun v H' => v = .bool true ∧ ∃ Hc', H' = Hc' ++ T' ∧ J (i + min n (l.length - i)) Hc'))
    (h0 : J 0 Hc) :
    SCalls Try.prog 62 [.func (.yield lp) #[] #[], .pointer (some ⟨bs, 0, none⟩), .pointer (some ⟨bn, 0, none⟩)] w0 base ([(bs, .cells #[.slice A l.length C] 22 (0, 0))] :: [(bn, .cells #[.int .i64 (n : Int)] 3 (0, 0))] :: (Hc ++ T)) (fun v H' => v = .tuple #[] ∧ ∃ Hc', H' = [(bs, .cells #[.slice A l.length C] 22 (0, 0))] :: [(bn, .cells #[.int .i64 (n : Int)] 3 (0, 0))] :: (Hc' ++ T) ∧ J l.length Hc') := by
  have hv : Rd tyB w0 base (Hc ++ T) A C l := Rd.skip Hc.length (by rw [List.drop_left]; exact h)
  refine SCalls.of_walk (n := 31) Try.func62 rfl rfl rfl fun cs => ?_
  refine At.seq ?_
  refine At.region ?_
  refine AtL.assign (.inl rfl) rfl rfl ?_
  refine AtL.done ?_
  refine At.block ?_
  refine At.loop2 (fun (i : Nat) (Hc2 : List Seg) => [(0, .func (.yield lp) #[] #[]), (1, .pointer (some ⟨bs, 0, none⟩)), (2, .pointer (some ⟨bn, 0, none⟩)), (4, .int .i64 (i : Int))]) (fun (i : Nat) (Hc2 : List Seg) => [(bs, .cells #[.slice A l.length C] 22 (0, 0))] :: [(bn, .cells #[.int .i64 (n : Int)] 3 (0, 0))] :: (Hc2 ++ T)) (fun (i : Nat) (Hc2 : List Seg) => i ≤ l.length + n ∧ J (min i l.length) Hc2) (fun (i : Nat) (Hc2 : List Seg) => l.length + n - i) 0 Hc (⟨by omega, by rw [Nat.zero_min]; exact h0⟩) ⟨rfl, rfl, rfl, rfl, trivial⟩ rfl ?_
  rintro i Hc2 ⟨hi, hJ⟩ ihL1
  have hv2 : Rd tyB w0 base (Hc2 ++ T) A C l := Rd.skip Hc2.length (by rw [List.drop_left]; exact h)
  refine At.seq ?_
  refine At.seq ?_
  refine At.region ?_
  refine AtL.move (.inl rfl) rfl rfl ?_
  refine AtL.load tf_flat22 (.inl rfl) rfl rfl (Cell.own 0 0 rfl rfl rfl) ?_
  refine AtL.lenL Try.underlying22 (.inl rfl) rfl rfl ?_
  refine AtL.lss (.inl rfl) rfl rfl rfl ?_
  refine AtL.done ?_
  refine At.cond rfl ?_ ?_
  · intro hc1
    have hc1 : (i : Int) < (l.length : Int) := of_decide_eq_true hc1
    refine At.skip ?_
    refine At.seq ?_
    refine At.block ?_
    refine At.seq ?_
    have hleo3 := Rd.le hv2
    obtain ⟨A1, eA1⟩ : ∃ A1 : Option Addr, A1 = (if C = i then A else Option.map (fun a => a.add (i * tyB.sz)) A) := ⟨_, rfl⟩
    obtain ⟨C2, eC2⟩ : ∃ C2 : Nat, C2 = C - i := ⟨_, rfl⟩
    have o3 : Rd tyB w0 base (Hc2 ++ T) A1 C2 (subl l i l.length) := by rw [eA1, eC2]; exact Rd.cut hv2 (by omega) (by omega) (by omega) (by omega)
    refine At.draw (es := []) (pv := [(0, .int .i64 (n : Int)), (1, .slice A l.length C), (2, .int .i64 (i : Int)), (3, .slice A1 (subl l i l.length).length C2), (4, .int .i64 ((subl l i l.length).length : Int)), (5, .int .i64 ((min n (l.length - i) : Nat) : Int)), (6, .int .i64 ((min n (l.length - i) : Nat) : Int))]) tf_mixed (by kernel_rfl) (by kernel_rfl) (by kernel_rfl) ?_
    refine ⟨⟨.inr ⟨_, rfl, rfl, .inl ⟨rfl, Do.load tf_flat3 rfl (Cell.own 1 0 rfl rfl rfl)⟩⟩, .inr ⟨_, rfl, rfl, .inl ⟨rfl, Do.load tf_flat22 rfl (Cell.own 0 0 rfl rfl rfl)⟩⟩, .inr ⟨_, rfl, rfl, .inl ⟨rfl, Do.move rfl⟩⟩, .inr ⟨_, rfl, rfl, .inl ⟨rfl, Do.sliceX_ (T := tyB) (l := l) i l.length C (evBound_some rfl rfl) rfl rfl (by intro h; cases h) (by omega) (by omega) (Nat.le_refl _) Try.underlying22 tf_sz5 rfl eA1 (subl_len (by omega)) eC2⟩⟩, .inr ⟨_, rfl, rfl, .inl ⟨rfl, Do.lenL Try.underlying22 rfl⟩⟩, .inr ⟨_, rfl, rfl, .inl ⟨rfl, Do.asInt (Do.minZ (z := ((min n ((subl l i l.length).length) : Nat) : Int)) rfl rfl (by omega)) (by rw [subl_len (Nat.le_refl _)])⟩⟩, .inr ⟨_, rfl, rfl, .inl ⟨rfl, Do.assign rfl⟩⟩, trivial⟩, by kernel_rfl, ?_⟩
    refine At.mono (E' := [(0, .func (.yield lp) #[] #[]), (1, .pointer (some ⟨bs, 0, none⟩)), (2, .pointer (some ⟨bn, 0, none⟩)), (4, .int .i64 (i : Int)), (5, .int .i64 ((min n (l.length - i) : Nat) : Int))]) ⟨rfl, rfl, rfl, rfl, rfl, trivial⟩ ?_
    refine At.seq ?_
    refine At.region ?_
    refine AtL.move (.inl rfl) rfl rfl ?_
    refine AtL.load tf_flat22 (.inl rfl) rfl rfl (Cell.own 0 0 rfl rfl rfl) ?_
    refine AtL.move (.inl rfl) rfl rfl ?_
    refine AtL.move (.inl rfl) rfl rfl ?_
    refine AtL.move (.inl rfl) rfl rfl ?_
    refine AtL.add (z := (i : Int) + ((min n (l.length - i) : Nat) : Int)) (.inl rfl) rfl rfl rfl (w64 (by omega) (by omega)) ?_
    refine AtL.move (.inl rfl) rfl rfl ?_
    refine AtL.move (.inl rfl) rfl rfl ?_
    refine AtL.add (z := (i : Int) + ((min n (l.length - i) : Nat) : Int)) (.inl rfl) rfl rfl rfl (w64 (by omega) (by omega)) ?_
    have hle3 := Rd.le h
    obtain ⟨A3, eA3⟩ : ∃ A3 : Option Addr, A3 = (if (i + min n (l.length - i)) = i then A else Option.map (fun a => a.add (i * tyB.sz)) A) := ⟨_, rfl⟩
    obtain ⟨C3, eC3⟩ : ∃ C3 : Nat, C3 = (i + min n (l.length - i)) - i := ⟨_, rfl⟩
    have q3 : Rd tyB w0 base T A3 C3 (subl l i (i + min n (l.length - i))) := by rw [eA3, eC3]; exact Rd.cut h (by omega) (by omega) (by omega) (by omega)
    refine AtL.ofIs (Do.sliceX_ (T := tyB) (l := l) i (i + min n (l.length - i)) (i + min n (l.length - i)) (evBound_some rfl rfl) (evBound_some rfl rfl) (evBound_some rfl rfl) (fun _ => rfl) (by omega) (by omega) (by omega) Try.underlying22 tf_sz5 rfl eA3 (subl_len (l := l) (i := i) (j := i + min n (l.length - i)) (by omega)) eC3) (.inl rfl) rfl ?_
    refine AtL.yield (.inl rfl) rfl rfl rfl (YCalls.perm (perm2 [(bs, .cells #[.slice A l.length C] 22 (0, 0))] [(bn, .cells #[.int .i64 (n : Int)] 3 (0, 0))] Hc2 T) (hY i Hc2 (by omega) (by rw [show min i l.length = i by omega] at hJ; exact hJ) ([(bs, .cells #[.slice A l.length C] 22 (0, 0))] :: [(bn, .cells #[.int .i64 (n : Int)] 3 (0, 0))] :: T) A3 C3 (Rd.skip 2 q3))) ?_
    rintro _ _ ⟨rfl, Hc3, rfl, hJ3⟩
    refine AtL.perm (perm2 _ _ Hc3 T).symm ?_
    refine AtL.not (.inl rfl) rfl rfl ?_
    refine AtL.done ?_
    refine At.condF rfl ?_
    refine At.skip ?_
    refine At.inBlock ?_
    refine At.region ?_
    refine AtL.move (.inl rfl) rfl rfl ?_
    refine AtL.load tf_flat3 (.inl rfl) rfl rfl (Cell.own 1 0 rfl rfl rfl) ?_
    refine AtL.add (z := (i : Int) + (n : Int)) (.inl rfl) rfl rfl rfl (w64 (by omega) (by omega)) ?_
    refine AtL.assign (.inl rfl) rfl rfl ?_
    refine AtL.done ?_
    exact ihL1 (i + n) Hc3 (⟨by omega, by rw [show min (i + n) l.length = i + min n (l.length - i) by omega]; exact hJ3⟩) (by omega) _ (by exact ⟨rfl, rfl, rfl, (by first | rfl | exact slLen (by simp []) | exact intEq (by omega) | exact intEq (by simp []) | exact slLen (by simp []; omega)), trivial⟩)
  · intro hc1
    have hc1 : ¬ ((i : Int) < (l.length : Int)) := of_decide_eq_false hc1
    refine At.exit rfl ?_
    exact At.end_ Try.func62 rfl rfl (⟨rfl, _, rfl, by rw [show min i l.length = l.length by omega] at hJ; exact hJ⟩)

end Go.Proofs.Ytllfgcekebafhaa
