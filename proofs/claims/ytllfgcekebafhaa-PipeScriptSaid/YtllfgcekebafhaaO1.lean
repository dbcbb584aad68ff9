/- The contracts of package octet, and of slices.Concat over bytes. -/
import Derived.Test.YtllfgcekebafhaaK1
namespace Go.Proofs.Ytllfgcekebafhaa
set_option linter.unusedVariables false
set_option linter.unusedSimpArgs false
set_option maxRecDepth 100000

theorem ofInt_mod (a : Int) : UInt8.ofInt (a % 256) = UInt8.ofInt a := by
  apply UInt8.toNat_inj.1
  rw [ofInt_toNat, ofInt_toNat, Int.emod_emod_of_dvd _ (Int.dvd_refl _)]

set_option maxHeartbeats 400000 in
theorem put2_ok {w0 : World} {base : Nat} {H : List Seg} (n : Int) (h0 : 0 ≤ n) (h1 : n ≤ 65535) :
    SCalls Try.prog 31 [.int .i64 n] w0 base (H) (fun v H' => ∃ A' C' s', Own tyB 5 A' C' [UInt8.ofInt (n / 256), UInt8.ofInt n] s' ∧ v = .tuple #[.slice A' 2 C', int 0] ∧ H' = s' :: H) := by
  refine SCalls.of_walk (n := 36) Try.func31 rfl rfl rfl fun cs => ?_
  refine At.seq ?_
  refine At.region ?_
  refine AtL.assign (.inl rfl) rfl rfl ?_
  refine AtL.assign (.inl rfl) rfl rfl ?_
  refine AtL.done ?_
  refine At.seq ?_
  refine At.region ?_
  refine AtL.alloc tf_zero65 (cs := #[.int .u8 0, .int .u8 0]) rfl (.inl rfl) rfl ?_
  intro b1
  refine AtL.done ?_
  refine At.seq ?_
  refine At.seq ?_
  refine At.region ?_
  refine AtL.move (.inl rfl) rfl rfl ?_
  refine AtL.lss (.inl rfl) rfl rfl rfl ?_
  refine AtL.move (.inl rfl) rfl rfl ?_
  refine AtL.join 7 (E' := [(16, .bool (!(decide ((n / 65536 : Int) = 0)))), (0, .int .i64 n), (4, .pointer (some ⟨b1, 0, none⟩))]) (H' := [(b1, .cells #[.int .u8 0, .int .u8 0] 65 (0, 0))] :: H) (fun J => ?_) ?_
  · refine AtL.split (t := 9) rfl ?_ ?_
    · intro hs9
      have hs9 : (n : Int) < 0 := of_decide_eq_true hs9
      exact absurd hs9 (by omega)
    · intro hs9
      have hs9 : ¬ ((n : Int) < 0) := of_decide_eq_false hs9
      refine AtL.move (.inr ⟨_, _, _, rfl, rfl, rfl, rfl⟩) rfl rfl ?_
      refine AtL.loadN (cs := [.int .u8 0, .int .u8 0]) tf_agg65 (.inr ⟨_, _, _, rfl, rfl, rfl, rfl⟩) rfl rfl rfl (cellsOwn 0 0 0 rfl rfl rfl) ?_
      refine AtL.move (.inr ⟨_, _, _, rfl, rfl, rfl, rfl⟩) rfl rfl ?_
      refine AtL.mul (z := 16) (.inr ⟨_, _, _, rfl, rfl, rfl, rfl⟩) rfl rfl rfl (by decide) ?_
      refine AtL.shr (z := n / 65536) (.inr ⟨_, _, _, rfl, rfl, rfl, rfl⟩) rfl rfl rfl (by omega) (shr_eq _ _ 16 rfl (by decide) _ (by decide)) ?_
      refine AtL.nei (.inr ⟨_, _, _, rfl, rfl, rfl, rfl⟩) rfl rfl rfl ?_
      refine AtL.pickF (.inl rfl) rfl rfl rfl ?_
      exact J _ (by exact ⟨(boolIs (by clear J; first | (simp [hs9]; done) | (simp_all; done) | grind)), rfl, rfl, trivial⟩)
  · skip
    refine AtL.done ?_
    refine At.condIs false rfl (by simp; omega) ?_
    refine At.skip ?_
    refine At.seq ?_
    refine At.region ?_
    refine AtL.assign (.inl rfl) rfl rfl ?_
    refine AtL.done ?_
    refine At.seq ?_
    refine At.seq ?_
    refine At.region ?_
    refine AtL.loadN (cs := [.int .u8 0, .int .u8 0]) tf_agg65 (.inl rfl) rfl rfl rfl (cellsOwn 0 0 0 rfl rfl rfl) ?_
    refine AtL.move (.inl rfl) rfl rfl ?_
    refine AtL.move (.inl rfl) rfl rfl ?_
    refine AtL.done ?_
    refine At.block ?_
    refine At.unroll ?_
    refine At.seq ?_
    refine At.region ?_
    refine AtL.lss (.inl rfl) rfl rfl rfl ?_
    refine AtL.done ?_
    refine At.seq ?_
    refine At.condT rfl ?_
    refine At.skip ?_
    refine At.seq ?_
    refine At.block ?_
    refine At.seq ?_
    refine At.region ?_
    refine AtL.move (.inl rfl) rfl rfl ?_
    refine AtL.assign (.inl rfl) rfl rfl ?_
    refine AtL.done ?_
    refine At.region ?_
    refine AtL.move (.inl rfl) rfl rfl ?_
    refine AtL.move (.inl rfl) rfl rfl ?_
    refine AtL.loadN (cs := [.int .u8 0, .int .u8 0]) tf_agg65 (.inl rfl) rfl rfl rfl (cellsOwn 0 0 0 rfl rfl rfl) ?_
    refine AtL.move (.inl rfl) rfl rfl ?_
    refine AtL.sub (z := 1) (.inl rfl) rfl rfl rfl (by decide) ?_
    refine AtL.move (.inl rfl) rfl rfl ?_
    refine AtL.sub (z := 1) (.inl rfl) rfl rfl rfl (by decide) ?_
    refine AtL.mul (z := 8) (.inl rfl) rfl rfl rfl (by decide) ?_
    refine AtL.shr (z := n / 256) (.inl rfl) rfl rfl rfl (by omega) (shr_eq _ _ 8 rfl (by decide) _ (by decide)) ?_
    refine AtL.convInt (z := ((UInt8.ofInt (n / 256)).toNat : Int)) Try.underlying3 Try.underlying5 (.inl rfl) rfl rfl (u8_conv _) ?_
    refine AtL.buildSlice (cs := [.int .u8 ((UInt8.ofInt (n / 256)).toNat : Int)]) Try.underlying22 tf_zero5 tf_sz5 rfl rfl (.inl rfl) rfl rfl rfl ?_
    intro b2
    refine AtL.own1 tyB (l := ([(UInt8.ofInt (n / 256))] : List UInt8)) rfl rfl (by first | decide | simp) ?_
    intro s3 o4
    refine AtL.nil ?_
    refine AtL.append (l := []) (news := [(UInt8.ofInt (n / 256))]) 0 tf_el22 rfl (Own.nil tyB 5) (o4.rd (i := 1) rfl) (by first | omega | (simp only [List.length_append, List.length_cons, List.length_nil]; omega) | (simp; done) | (simp; omega)) (.inl rfl) rfl rfl rfl ?_
    intro A5 C6 s7 o8
    refine AtL.assign (.inl rfl) rfl rfl ?_
    refine AtL.done ?_
    refine At.inBlock ?_
    refine At.region ?_
    refine AtL.add (z := 1) (.inl rfl) rfl rfl rfl (by decide) ?_
    refine AtL.move (.inl rfl) rfl rfl ?_
    refine AtL.done ?_
    refine At.again ?_
    refine At.seq ?_
    refine At.region ?_
    refine AtL.lss (.inl rfl) rfl rfl rfl ?_
    refine AtL.done ?_
    refine At.seq ?_
    refine At.condT rfl ?_
    refine At.skip ?_
    refine At.seq ?_
    refine At.block ?_
    refine At.seq ?_
    refine At.region ?_
    refine AtL.move (.inl rfl) rfl rfl ?_
    refine AtL.assign (.inl rfl) rfl rfl ?_
    refine AtL.done ?_
    refine At.region ?_
    refine AtL.move (.inl rfl) rfl rfl ?_
    refine AtL.move (.inl rfl) rfl rfl ?_
    refine AtL.loadN (cs := [.int .u8 0, .int .u8 0]) tf_agg65 (.inl rfl) rfl rfl rfl (cellsOwn 2 0 0 rfl rfl rfl) ?_
    refine AtL.move (.inl rfl) rfl rfl ?_
    refine AtL.sub (z := 1) (.inl rfl) rfl rfl rfl (by decide) ?_
    refine AtL.move (.inl rfl) rfl rfl ?_
    refine AtL.sub (z := 0) (.inl rfl) rfl rfl rfl (by decide) ?_
    refine AtL.mul (z := 0) (.inl rfl) rfl rfl rfl (by decide) ?_
    refine AtL.shr (z := n / 1) (.inl rfl) rfl rfl rfl (by omega) (shr_eq _ _ 0 rfl (by decide) _ (by decide)) ?_
    refine AtL.convInt (z := ((UInt8.ofInt (n / 1)).toNat : Int)) Try.underlying3 Try.underlying5 (.inl rfl) rfl rfl (u8_conv _) ?_
    refine AtL.buildSlice (cs := [.int .u8 ((UInt8.ofInt (n / 1)).toNat : Int)]) Try.underlying22 tf_zero5 tf_sz5 rfl rfl (.inl rfl) rfl rfl rfl ?_
    intro b9
    refine AtL.own1 tyB (l := ([(UInt8.ofInt (n / 1))] : List UInt8)) rfl rfl (by first | decide | simp) ?_
    intro s10 o11
    refine AtL.append (l := [] ++ [(UInt8.ofInt (n / 256))]) (news := [(UInt8.ofInt (n / 1))]) 1 tf_el22 rfl o8 (o11.rd (i := 0) rfl) (by first | omega | (simp only [List.length_append, List.length_cons, List.length_nil]; omega) | (simp; done) | (simp; omega)) (.inl rfl) rfl rfl rfl ?_
    intro A12 C13 s14 o15
    refine AtL.assign (.inl rfl) rfl rfl ?_
    refine AtL.done ?_
    refine At.inBlock ?_
    refine At.region ?_
    refine AtL.add (z := 2) (.inl rfl) rfl rfl rfl (by decide) ?_
    refine AtL.move (.inl rfl) rfl rfl ?_
    refine AtL.done ?_
    refine At.again ?_
    refine At.seq ?_
    refine At.region ?_
    refine AtL.lss (.inl rfl) rfl rfl rfl ?_
    refine AtL.done ?_
    refine At.seq ?_
    refine At.condF rfl ?_
    refine At.exit rfl ?_
    refine At.seq ?_
    refine At.region ?_
    refine AtL.move (.inl rfl) rfl rfl ?_
    refine AtL.assign (.inl rfl) rfl rfl ?_
    refine AtL.assign (.inl rfl) rfl rfl ?_
    refine AtL.done ?_
    refine At.pick (H' := s14 :: H) [1] 4 rfl rfl ?_
    exact At.ret Try.func31 rfl rfl (⟨_, _, _, by have h := o15; rw [Int.ediv_one] at h; exact h, rfl, rfl⟩)

set_option maxHeartbeats 400000 in
theorem put16_ok {w0 : World} {base : Nat} {H : List Seg} (n : Int) (h0 : 0 ≤ n) (h1 : n ≤ 65535) :
    SCalls Try.prog 27 [.int .i64 n] w0 base (H) (fun v H' => ∃ A' C' s', Own tyB 5 A' C' [UInt8.ofInt (n / 256), UInt8.ofInt n] s' ∧ v = .tuple #[.slice A' 2 C', int 0] ∧ H' = s' :: H) := by
  refine SCalls.of_walk (n := 8) Try.func27 rfl rfl rfl fun cs => ?_
  refine At.seq ?_
  refine At.region ?_
  refine AtL.assign (.inl rfl) rfl rfl ?_
  refine AtL.assign (.inl rfl) rfl rfl ?_
  refine AtL.done ?_
  refine At.seq ?_
  refine At.region ?_
  refine AtL.move (.inl rfl) rfl rfl ?_
  refine AtL.call tf_body31 (.inl rfl) rfl rfl (put2_ok n (by omega) (by omega)) ?_
  rintro _ _ ⟨A1, C2, s3, o4, rfl, rfl⟩
  refine AtL.extract (.inl rfl) rfl rfl rfl ?_
  refine AtL.extract (.inl rfl) rfl rfl rfl ?_
  refine AtL.assign (.inl rfl) rfl rfl ?_
  refine AtL.assign (.inl rfl) rfl rfl ?_
  refine AtL.done ?_
  exact At.ret Try.func27 rfl rfl (⟨_, _, _, o4, rfl, rfl⟩)

set_option maxHeartbeats 400000 in
theorem grow_ok {w0 : World} {base : Nat} {H : List Seg} (n : Nat) (hn : n ≤ 140737488355328) :
    SCalls Try.prog 32 [.slice none 0 0, .int .i64 (n : Int)] w0 base (H) (fun v H' => ∃ A' C' s', Own tyB 5 A' C' [] s' ∧ v = .slice A' 0 C' ∧ H' = s' :: H) := by
  refine SCalls.of_walk (n := 27) Try.func32 rfl rfl rfl fun cs => ?_
  refine At.seq ?_
  refine At.region ?_
  refine AtL.assign (.inl rfl) rfl rfl ?_
  refine AtL.done ?_
  refine At.seq ?_
  refine At.seq ?_
  refine At.region ?_
  refine AtL.move (.inl rfl) rfl rfl ?_
  refine AtL.lss (.inl rfl) rfl rfl rfl ?_
  refine AtL.done ?_
  refine At.condIs false rfl (decide_eq_false (by omega)) ?_
  refine At.skip ?_
  refine At.seq ?_
  refine At.seq ?_
  refine At.region ?_
  refine AtL.move (.inl rfl) rfl rfl ?_
  refine AtL.move (.inl rfl) rfl rfl ?_
  refine AtL.capL Try.underlying22 (.inl rfl) rfl rfl ?_
  refine AtL.move (.inl rfl) rfl rfl ?_
  refine AtL.lenL Try.underlying22 (.inl rfl) rfl rfl ?_
  refine AtL.sub (z := 0) (.inl rfl) rfl rfl rfl (by decide) ?_
  refine AtL.sub (z := (n : Int)) (.inl rfl) rfl rfl rfl (w64 (by omega) (by omega)) ?_
  refine AtL.assign (.inl rfl) rfl rfl ?_
  refine AtL.done ?_
  refine At.seq ?_
  refine At.region ?_
  refine AtL.move (.inl rfl) rfl rfl ?_
  refine AtL.gtr (.inl rfl) rfl rfl rfl ?_
  refine AtL.done ?_
  refine At.cond rfl ?_ ?_
  · intro hc2
    have hc2 : 0 < (n : Int) := of_decide_eq_true hc2
    refine At.region ?_
    refine AtL.move (.inl rfl) rfl rfl ?_
    refine AtL.move (.inl rfl) rfl rfl ?_
    refine AtL.capL Try.underlying22 (.inl rfl) rfl rfl ?_
    refine AtL.sliceNil rfl (evBound_some rfl rfl) Try.underlying22 tf_sz5 (.inl rfl) rfl rfl ?_
    refine AtL.move (.inl rfl) rfl rfl ?_
    refine AtL.nil ?_
    refine AtL.appendZ (l := ([] : List UInt8)) (m := n) 0 tf_el22 Try.underlying3 rfl (Own.nil tyB 5) (by decide) (by omega) (by first | omega | (simp only [List.length_append, List.length_cons, List.length_nil]; omega) | (simp; done) | (simp; omega)) (by first | omega | (simp only [List.length_append, List.length_cons, List.length_nil]; omega) | (simp; done) | (simp; omega)) (.inl rfl) rfl rfl rfl ?_
    intro A1 C2 s3 o4
    refine AtL.move (.inl rfl) rfl rfl ?_
    refine AtL.lenL Try.underlying22 (.inl rfl) rfl rfl ?_
    have hleo7 := Own.le_cap o4
    refine AtL.sliceO 0 0 C2 o4 rfl (evBound_some rfl rfl) rfl (by intro h; cases h) (by omega) (by omega) (by omega) (Nat.le_refl _) Try.underlying22 tf_sz5 (.inl rfl) rfl rfl ?_
    intro A5 C6 o7
    clear hleo7
    have hlo7 : (subl (([] : List UInt8) ++ List.replicate n (0 : UInt8)) 0 0).length = 0 - 0 := subl_len (by omega)
    refine AtL.assign (.inl rfl) rfl rfl ?_
    refine AtL.done ?_
    refine At.seq ?_
    refine At.region ?_
    refine AtL.move (.inl rfl) rfl rfl ?_
    refine AtL.assign (.inl rfl) rfl rfl ?_
    refine AtL.done ?_
    exact At.ret Try.func32 rfl rfl (⟨_, _, _, o7, rfl, rfl⟩)
  · intro hc2
    have hc2 : ¬ (0 < (n : Int)) := of_decide_eq_false hc2
    refine At.skip ?_
    refine At.seq ?_
    refine At.region ?_
    refine AtL.move (.inl rfl) rfl rfl ?_
    refine AtL.assign (.inl rfl) rfl rfl ?_
    refine AtL.done ?_
    refine At.nil ?_
    exact At.ret Try.func32 rfl rfl (⟨none, 0, [], Own.nil tyB 5, rfl, rfl⟩)

set_option maxHeartbeats 1000000 in
theorem concat2 {w0 : World} {base : Nat} {H : List Seg} {b : Nat} {A0 : Option Addr} {C0 : Nat} {l0 : List UInt8} (h0 : Rd tyB w0 base H A0 C0 l0) {A1 : Option Addr} {C1 : Nat} {l1 : List UInt8} (h1 : Rd tyB w0 base H A1 C1 l1) (hl : l0.length + l1.length ≤ 140737488355328) :
    SCalls Try.prog 28 [.slice (some ⟨b, 0, none⟩) 2 2] w0 base ([(b, .cells #[.slice A0 l0.length C0, .slice A1 l1.length C1] 22 (0, 0))] :: H) (fun v H' => ∃ A' C' s', Own tyB 5 A' C' (l0 ++ l1) s' ∧ v = .slice A' (l0 ++ l1).length C' ∧ H' = s' :: [(b, .cells #[.slice A0 l0.length C0, .slice A1 l1.length C1] 22 (0, 0))] :: H) := by
  refine SCalls.of_walk (n := 36) Try.func28 rfl rfl rfl fun cs => ?_
  refine At.seq ?_
  refine At.region ?_
  refine AtL.assign (.inl rfl) rfl rfl ?_
  refine AtL.done ?_
  refine At.seq ?_
  refine At.region ?_
  refine AtL.assign (.inl rfl) rfl rfl ?_
  refine AtL.done ?_
  refine At.seq ?_
  refine At.seq ?_
  refine At.region ?_
  refine AtL.move (.inl rfl) rfl rfl ?_
  refine AtL.lenL Try.underlying34 (.inl rfl) rfl rfl ?_
  refine AtL.move (.inl rfl) rfl rfl ?_
  refine AtL.done ?_
  refine At.block ?_
  refine At.unroll ?_
  refine At.seq ?_
  refine At.region ?_
  refine AtL.lss (.inl rfl) rfl rfl rfl ?_
  refine AtL.done ?_
  refine At.seq ?_
  refine At.condT rfl ?_
  refine At.skip ?_
  refine At.seq ?_
  refine At.block ?_
  refine At.seq ?_
  refine At.region ?_
  refine AtL.indexB 0 Try.underlying34 tf_sz22 (.inl rfl) rfl rfl rfl rfl rfl rfl ?_
  refine AtL.load tf_flat22 (.inl rfl) rfl rfl (Cell.own 0 0 rfl rfl rfl) ?_
  refine AtL.assign (.inl rfl) rfl rfl ?_
  refine AtL.done ?_
  refine At.seq ?_
  refine At.region ?_
  refine AtL.move (.inl rfl) rfl rfl ?_
  refine AtL.move (.inl rfl) rfl rfl ?_
  refine AtL.lenL Try.underlying22 (.inl rfl) rfl rfl ?_
  refine AtL.add (z := 0 + (l0.length : Int)) (.inl rfl) rfl rfl rfl (w64 (by omega) (by omega)) ?_
  refine AtL.assign (.inl rfl) rfl rfl ?_
  refine AtL.done ?_
  refine At.seq ?_
  refine At.region ?_
  refine AtL.move (.inl rfl) rfl rfl ?_
  refine AtL.lss (.inl rfl) rfl rfl rfl ?_
  refine AtL.done ?_
  refine At.condIs false rfl (decide_eq_false (by omega)) ?_
  refine At.skip ?_
  refine At.inBlock ?_
  refine At.region ?_
  refine AtL.add (z := 1) (.inl rfl) rfl rfl rfl (by decide) ?_
  refine AtL.move (.inl rfl) rfl rfl ?_
  refine AtL.done ?_
  refine At.again ?_
  refine At.seq ?_
  refine At.region ?_
  refine AtL.lss (.inl rfl) rfl rfl rfl ?_
  refine AtL.done ?_
  refine At.seq ?_
  refine At.condT rfl ?_
  refine At.skip ?_
  refine At.seq ?_
  refine At.block ?_
  refine At.seq ?_
  refine At.region ?_
  refine AtL.indexB 1 Try.underlying34 tf_sz22 (.inl rfl) rfl rfl rfl rfl rfl rfl ?_
  refine AtL.load tf_flat22 (.inl rfl) rfl rfl (Cell.own 0 0 rfl rfl rfl) ?_
  refine AtL.assign (.inl rfl) rfl rfl ?_
  refine AtL.done ?_
  refine At.seq ?_
  refine At.region ?_
  refine AtL.move (.inl rfl) rfl rfl ?_
  refine AtL.move (.inl rfl) rfl rfl ?_
  refine AtL.lenL Try.underlying22 (.inl rfl) rfl rfl ?_
  refine AtL.add (z := (0 + (l0.length : Int)) + (l1.length : Int)) (.inl rfl) rfl rfl rfl (w64 (by omega) (by omega)) ?_
  refine AtL.assign (.inl rfl) rfl rfl ?_
  refine AtL.done ?_
  refine At.seq ?_
  refine At.region ?_
  refine AtL.move (.inl rfl) rfl rfl ?_
  refine AtL.lss (.inl rfl) rfl rfl rfl ?_
  refine AtL.done ?_
  refine At.condIs false rfl (decide_eq_false (by omega)) ?_
  refine At.skip ?_
  refine At.inBlock ?_
  refine At.region ?_
  refine AtL.add (z := 2) (.inl rfl) rfl rfl rfl (by decide) ?_
  refine AtL.move (.inl rfl) rfl rfl ?_
  refine AtL.done ?_
  refine At.again ?_
  refine At.seq ?_
  refine At.region ?_
  refine AtL.lss (.inl rfl) rfl rfl rfl ?_
  refine AtL.done ?_
  refine At.seq ?_
  refine At.condF rfl ?_
  refine At.exit rfl ?_
  refine At.seq ?_
  refine At.region ?_
  refine AtL.move (.inl rfl) rfl rfl ?_
  refine AtL.call tf_body32 (.inl rfl) rfl rfl (grow_ok ((0 + l0.length) + l1.length) (by omega)) ?_
  rintro _ _ ⟨A1, C2, s3, o4, rfl, rfl⟩
  refine AtL.assign (.inl rfl) rfl rfl ?_
  refine AtL.done ?_
  refine At.seq ?_
  refine At.seq ?_
  refine At.region ?_
  refine AtL.move (.inl rfl) rfl rfl ?_
  refine AtL.lenL Try.underlying34 (.inl rfl) rfl rfl ?_
  refine AtL.move (.inl rfl) rfl rfl ?_
  refine AtL.done ?_
  refine At.block ?_
  refine At.unroll ?_
  refine At.seq ?_
  refine At.region ?_
  refine AtL.lss (.inl rfl) rfl rfl rfl ?_
  refine AtL.done ?_
  refine At.seq ?_
  refine At.condT rfl ?_
  refine At.skip ?_
  refine At.seq ?_
  refine At.block ?_
  refine At.seq ?_
  refine At.region ?_
  refine AtL.indexB 0 Try.underlying34 tf_sz22 (.inl rfl) rfl rfl rfl rfl rfl rfl ?_
  refine AtL.load tf_flat22 (.inl rfl) rfl rfl (Cell.own 1 0 rfl rfl rfl) ?_
  refine AtL.assign (.inl rfl) rfl rfl ?_
  refine AtL.done ?_
  refine At.region ?_
  refine AtL.move (.inl rfl) rfl rfl ?_
  refine AtL.move (.inl rfl) rfl rfl ?_
  refine AtL.append (l := ([] : List UInt8)) (news := l0) 0 tf_el22 rfl o4 (Rd.skip 2 h0) (by first | omega | (simp only [List.length_append, List.length_cons, List.length_nil]; omega) | (simp; done) | (simp; omega)) (.inl rfl) rfl rfl rfl ?_
  intro A5 C6 s7 o8
  refine AtL.assign (.inl rfl) rfl rfl ?_
  refine AtL.done ?_
  refine At.inBlock ?_
  refine At.region ?_
  refine AtL.add (z := 1) (.inl rfl) rfl rfl rfl (by decide) ?_
  refine AtL.move (.inl rfl) rfl rfl ?_
  refine AtL.done ?_
  refine At.again ?_
  refine At.seq ?_
  refine At.region ?_
  refine AtL.lss (.inl rfl) rfl rfl rfl ?_
  refine AtL.done ?_
  refine At.seq ?_
  refine At.condT rfl ?_
  refine At.skip ?_
  refine At.seq ?_
  refine At.block ?_
  refine At.seq ?_
  refine At.region ?_
  refine AtL.indexB 1 Try.underlying34 tf_sz22 (.inl rfl) rfl rfl rfl rfl rfl rfl ?_
  refine AtL.load tf_flat22 (.inl rfl) rfl rfl (Cell.own 1 0 rfl rfl rfl) ?_
  refine AtL.assign (.inl rfl) rfl rfl ?_
  refine AtL.done ?_
  refine At.region ?_
  refine AtL.move (.inl rfl) rfl rfl ?_
  refine AtL.move (.inl rfl) rfl rfl ?_
  refine AtL.append (l := ([] : List UInt8) ++ l0) (news := l1) 0 tf_el22 rfl o8 (Rd.skip 2 h1) (by first | omega | (simp only [List.length_append, List.length_cons, List.length_nil]; omega) | (simp; done) | (simp; omega)) (.inl rfl) rfl rfl rfl ?_
  intro A9 C10 s11 o12
  refine AtL.assign (.inl rfl) rfl rfl ?_
  refine AtL.done ?_
  refine At.inBlock ?_
  refine At.region ?_
  refine AtL.add (z := 2) (.inl rfl) rfl rfl rfl (by decide) ?_
  refine AtL.move (.inl rfl) rfl rfl ?_
  refine AtL.done ?_
  refine At.again ?_
  refine At.seq ?_
  refine At.region ?_
  refine AtL.lss (.inl rfl) rfl rfl rfl ?_
  refine AtL.done ?_
  refine At.seq ?_
  refine At.condF rfl ?_
  refine At.exit rfl ?_
  refine At.seq ?_
  refine At.region ?_
  refine AtL.move (.inl rfl) rfl rfl ?_
  refine AtL.assign (.inl rfl) rfl rfl ?_
  refine AtL.done ?_
  exact At.ret Try.func28 rfl rfl (⟨_, _, _, o12, rfl, rfl⟩)

set_option maxHeartbeats 1000000 in
theorem concat3 {w0 : World} {base : Nat} {H : List Seg} {b : Nat} {A0 : Option Addr} {C0 : Nat} {l0 : List UInt8} (h0 : Rd tyB w0 base H A0 C0 l0) {A1 : Option Addr} {C1 : Nat} {l1 : List UInt8} (h1 : Rd tyB w0 base H A1 C1 l1) {A2 : Option Addr} {C2 : Nat} {l2 : List UInt8} (h2 : Rd tyB w0 base H A2 C2 l2) (hl : l0.length + l1.length + l2.length ≤ 140737488355328) :
    SCalls Try.prog 28 [.slice (some ⟨b, 0, none⟩) 3 3] w0 base ([(b, .cells #[.slice A0 l0.length C0, .slice A1 l1.length C1, .slice A2 l2.length C2] 22 (0, 0))] :: H) (fun v H' => ∃ A' C' s', Own tyB 5 A' C' (l0 ++ l1 ++ l2) s' ∧ v = .slice A' (l0 ++ l1 ++ l2).length C' ∧ H' = s' :: [(b, .cells #[.slice A0 l0.length C0, .slice A1 l1.length C1, .slice A2 l2.length C2] 22 (0, 0))] :: H) := by
  refine SCalls.of_walk (n := 36) Try.func28 rfl rfl rfl fun cs => ?_
  refine At.seq ?_
  refine At.region ?_
  refine AtL.assign (.inl rfl) rfl rfl ?_
  refine AtL.done ?_
  refine At.seq ?_
  refine At.region ?_
  refine AtL.assign (.inl rfl) rfl rfl ?_
  refine AtL.done ?_
  refine At.seq ?_
  refine At.seq ?_
  refine At.region ?_
  refine AtL.move (.inl rfl) rfl rfl ?_
  refine AtL.lenL Try.underlying34 (.inl rfl) rfl rfl ?_
  refine AtL.move (.inl rfl) rfl rfl ?_
  refine AtL.done ?_
  refine At.block ?_
  refine At.unroll ?_
  refine At.seq ?_
  refine At.region ?_
  refine AtL.lss (.inl rfl) rfl rfl rfl ?_
  refine AtL.done ?_
  refine At.seq ?_
  refine At.condT rfl ?_
  refine At.skip ?_
  refine At.seq ?_
  refine At.block ?_
  refine At.seq ?_
  refine At.region ?_
  refine AtL.indexB 0 Try.underlying34 tf_sz22 (.inl rfl) rfl rfl rfl rfl rfl rfl ?_
  refine AtL.load tf_flat22 (.inl rfl) rfl rfl (Cell.own 0 0 rfl rfl rfl) ?_
  refine AtL.assign (.inl rfl) rfl rfl ?_
  refine AtL.done ?_
  refine At.seq ?_
  refine At.region ?_
  refine AtL.move (.inl rfl) rfl rfl ?_
  refine AtL.move (.inl rfl) rfl rfl ?_
  refine AtL.lenL Try.underlying22 (.inl rfl) rfl rfl ?_
  refine AtL.add (z := 0 + (l0.length : Int)) (.inl rfl) rfl rfl rfl (w64 (by omega) (by omega)) ?_
  refine AtL.assign (.inl rfl) rfl rfl ?_
  refine AtL.done ?_
  refine At.seq ?_
  refine At.region ?_
  refine AtL.move (.inl rfl) rfl rfl ?_
  refine AtL.lss (.inl rfl) rfl rfl rfl ?_
  refine AtL.done ?_
  refine At.condIs false rfl (decide_eq_false (by omega)) ?_
  refine At.skip ?_
  refine At.inBlock ?_
  refine At.region ?_
  refine AtL.add (z := 1) (.inl rfl) rfl rfl rfl (by decide) ?_
  refine AtL.move (.inl rfl) rfl rfl ?_
  refine AtL.done ?_
  refine At.again ?_
  refine At.seq ?_
  refine At.region ?_
  refine AtL.lss (.inl rfl) rfl rfl rfl ?_
  refine AtL.done ?_
  refine At.seq ?_
  refine At.condT rfl ?_
  refine At.skip ?_
  refine At.seq ?_
  refine At.block ?_
  refine At.seq ?_
  refine At.region ?_
  refine AtL.indexB 1 Try.underlying34 tf_sz22 (.inl rfl) rfl rfl rfl rfl rfl rfl ?_
  refine AtL.load tf_flat22 (.inl rfl) rfl rfl (Cell.own 0 0 rfl rfl rfl) ?_
  refine AtL.assign (.inl rfl) rfl rfl ?_
  refine AtL.done ?_
  refine At.seq ?_
  refine At.region ?_
  refine AtL.move (.inl rfl) rfl rfl ?_
  refine AtL.move (.inl rfl) rfl rfl ?_
  refine AtL.lenL Try.underlying22 (.inl rfl) rfl rfl ?_
  refine AtL.add (z := (0 + (l0.length : Int)) + (l1.length : Int)) (.inl rfl) rfl rfl rfl (w64 (by omega) (by omega)) ?_
  refine AtL.assign (.inl rfl) rfl rfl ?_
  refine AtL.done ?_
  refine At.seq ?_
  refine At.region ?_
  refine AtL.move (.inl rfl) rfl rfl ?_
  refine AtL.lss (.inl rfl) rfl rfl rfl ?_
  refine AtL.done ?_
  refine At.condIs false rfl (decide_eq_false (by omega)) ?_
  refine At.skip ?_
  refine At.inBlock ?_
  refine At.region ?_
  refine AtL.add (z := 2) (.inl rfl) rfl rfl rfl (by decide) ?_
  refine AtL.move (.inl rfl) rfl rfl ?_
  refine AtL.done ?_
  refine At.again ?_
  refine At.seq ?_
  refine At.region ?_
  refine AtL.lss (.inl rfl) rfl rfl rfl ?_
  refine AtL.done ?_
  refine At.seq ?_
  refine At.condT rfl ?_
  refine At.skip ?_
  refine At.seq ?_
  refine At.block ?_
  refine At.seq ?_
  refine At.region ?_
  refine AtL.indexB 2 Try.underlying34 tf_sz22 (.inl rfl) rfl rfl rfl rfl rfl rfl ?_
  refine AtL.load tf_flat22 (.inl rfl) rfl rfl (Cell.own 0 0 rfl rfl rfl) ?_
  refine AtL.assign (.inl rfl) rfl rfl ?_
  refine AtL.done ?_
  refine At.seq ?_
  refine At.region ?_
  refine AtL.move (.inl rfl) rfl rfl ?_
  refine AtL.move (.inl rfl) rfl rfl ?_
  refine AtL.lenL Try.underlying22 (.inl rfl) rfl rfl ?_
  refine AtL.add (z := ((0 + (l0.length : Int)) + (l1.length : Int)) + (l2.length : Int)) (.inl rfl) rfl rfl rfl (w64 (by omega) (by omega)) ?_
  refine AtL.assign (.inl rfl) rfl rfl ?_
  refine AtL.done ?_
  refine At.seq ?_
  refine At.region ?_
  refine AtL.move (.inl rfl) rfl rfl ?_
  refine AtL.lss (.inl rfl) rfl rfl rfl ?_
  refine AtL.done ?_
  refine At.condIs false rfl (decide_eq_false (by omega)) ?_
  refine At.skip ?_
  refine At.inBlock ?_
  refine At.region ?_
  refine AtL.add (z := 3) (.inl rfl) rfl rfl rfl (by decide) ?_
  refine AtL.move (.inl rfl) rfl rfl ?_
  refine AtL.done ?_
  refine At.again ?_
  refine At.seq ?_
  refine At.region ?_
  refine AtL.lss (.inl rfl) rfl rfl rfl ?_
  refine AtL.done ?_
  refine At.seq ?_
  refine At.condF rfl ?_
  refine At.exit rfl ?_
  refine At.seq ?_
  refine At.region ?_
  refine AtL.move (.inl rfl) rfl rfl ?_
  refine AtL.call tf_body32 (.inl rfl) rfl rfl (grow_ok (((0 + l0.length) + l1.length) + l2.length) (by omega)) ?_
  rintro _ _ ⟨A1, C2, s3, o4, rfl, rfl⟩
  refine AtL.assign (.inl rfl) rfl rfl ?_
  refine AtL.done ?_
  refine At.seq ?_
  refine At.seq ?_
  refine At.region ?_
  refine AtL.move (.inl rfl) rfl rfl ?_
  refine AtL.lenL Try.underlying34 (.inl rfl) rfl rfl ?_
  refine AtL.move (.inl rfl) rfl rfl ?_
  refine AtL.done ?_
  refine At.block ?_
  refine At.unroll ?_
  refine At.seq ?_
  refine At.region ?_
  refine AtL.lss (.inl rfl) rfl rfl rfl ?_
  refine AtL.done ?_
  refine At.seq ?_
  refine At.condT rfl ?_
  refine At.skip ?_
  refine At.seq ?_
  refine At.block ?_
  refine At.seq ?_
  refine At.region ?_
  refine AtL.indexB 0 Try.underlying34 tf_sz22 (.inl rfl) rfl rfl rfl rfl rfl rfl ?_
  refine AtL.load tf_flat22 (.inl rfl) rfl rfl (Cell.own 1 0 rfl rfl rfl) ?_
  refine AtL.assign (.inl rfl) rfl rfl ?_
  refine AtL.done ?_
  refine At.region ?_
  refine AtL.move (.inl rfl) rfl rfl ?_
  refine AtL.move (.inl rfl) rfl rfl ?_
  refine AtL.append (l := ([] : List UInt8)) (news := l0) 0 tf_el22 rfl o4 (Rd.skip 2 h0) (by first | omega | (simp only [List.length_append, List.length_cons, List.length_nil]; omega) | (simp; done) | (simp; omega)) (.inl rfl) rfl rfl rfl ?_
  intro A5 C6 s7 o8
  refine AtL.assign (.inl rfl) rfl rfl ?_
  refine AtL.done ?_
  refine At.inBlock ?_
  refine At.region ?_
  refine AtL.add (z := 1) (.inl rfl) rfl rfl rfl (by decide) ?_
  refine AtL.move (.inl rfl) rfl rfl ?_
  refine AtL.done ?_
  refine At.again ?_
  refine At.seq ?_
  refine At.region ?_
  refine AtL.lss (.inl rfl) rfl rfl rfl ?_
  refine AtL.done ?_
  refine At.seq ?_
  refine At.condT rfl ?_
  refine At.skip ?_
  refine At.seq ?_
  refine At.block ?_
  refine At.seq ?_
  refine At.region ?_
  refine AtL.indexB 1 Try.underlying34 tf_sz22 (.inl rfl) rfl rfl rfl rfl rfl rfl ?_
  refine AtL.load tf_flat22 (.inl rfl) rfl rfl (Cell.own 1 0 rfl rfl rfl) ?_
  refine AtL.assign (.inl rfl) rfl rfl ?_
  refine AtL.done ?_
  refine At.region ?_
  refine AtL.move (.inl rfl) rfl rfl ?_
  refine AtL.move (.inl rfl) rfl rfl ?_
  refine AtL.append (l := ([] : List UInt8) ++ l0) (news := l1) 0 tf_el22 rfl o8 (Rd.skip 2 h1) (by first | omega | (simp only [List.length_append, List.length_cons, List.length_nil]; omega) | (simp; done) | (simp; omega)) (.inl rfl) rfl rfl rfl ?_
  intro A9 C10 s11 o12
  refine AtL.assign (.inl rfl) rfl rfl ?_
  refine AtL.done ?_
  refine At.inBlock ?_
  refine At.region ?_
  refine AtL.add (z := 2) (.inl rfl) rfl rfl rfl (by decide) ?_
  refine AtL.move (.inl rfl) rfl rfl ?_
  refine AtL.done ?_
  refine At.again ?_
  refine At.seq ?_
  refine At.region ?_
  refine AtL.lss (.inl rfl) rfl rfl rfl ?_
  refine AtL.done ?_
  refine At.seq ?_
  refine At.condT rfl ?_
  refine At.skip ?_
  refine At.seq ?_
  refine At.block ?_
  refine At.seq ?_
  refine At.region ?_
  refine AtL.indexB 2 Try.underlying34 tf_sz22 (.inl rfl) rfl rfl rfl rfl rfl rfl ?_
  refine AtL.load tf_flat22 (.inl rfl) rfl rfl (Cell.own 1 0 rfl rfl rfl) ?_
  refine AtL.assign (.inl rfl) rfl rfl ?_
  refine AtL.done ?_
  refine At.region ?_
  refine AtL.move (.inl rfl) rfl rfl ?_
  refine AtL.move (.inl rfl) rfl rfl ?_
  refine AtL.append (l := (([] : List UInt8) ++ l0) ++ l1) (news := l2) 0 tf_el22 rfl o12 (Rd.skip 2 h2) (by first | omega | (simp only [List.length_append, List.length_cons, List.length_nil]; omega) | (simp; done) | (simp; omega)) (.inl rfl) rfl rfl rfl ?_
  intro A13 C14 s15 o16
  refine AtL.assign (.inl rfl) rfl rfl ?_
  refine AtL.done ?_
  refine At.inBlock ?_
  refine At.region ?_
  refine AtL.add (z := 3) (.inl rfl) rfl rfl rfl (by decide) ?_
  refine AtL.move (.inl rfl) rfl rfl ?_
  refine AtL.done ?_
  refine At.again ?_
  refine At.seq ?_
  refine At.region ?_
  refine AtL.lss (.inl rfl) rfl rfl rfl ?_
  refine AtL.done ?_
  refine At.seq ?_
  refine At.condF rfl ?_
  refine At.exit rfl ?_
  refine At.seq ?_
  refine At.region ?_
  refine AtL.move (.inl rfl) rfl rfl ?_
  refine AtL.assign (.inl rfl) rfl rfl ?_
  refine AtL.done ?_
  exact At.ret Try.func28 rfl rfl (⟨_, _, _, o16, rfl, rfl⟩)

set_option maxHeartbeats 400000 in
theorem rgrow_ok {w0 : World} {base : Nat} {H : List Seg} (n : Nat) (hn : n ≤ 140737488355328) :
    SCalls Try.prog 59 [.slice none 0 0, .int .i64 (n : Int)] w0 base (H) (fun v H' => ∃ A' C' s', Own tyB 5 A' C' [] s' ∧ v = .slice A' 0 C' ∧ H' = s' :: H) := by
  refine SCalls.of_walk (n := 27) Try.func59 rfl rfl rfl fun cs => ?_
  refine At.seq ?_
  refine At.region ?_
  refine AtL.assign (.inl rfl) rfl rfl ?_
  refine AtL.done ?_
  refine At.seq ?_
  refine At.seq ?_
  refine At.region ?_
  refine AtL.move (.inl rfl) rfl rfl ?_
  refine AtL.lss (.inl rfl) rfl rfl rfl ?_
  refine AtL.done ?_
  refine At.condIs false rfl (decide_eq_false (by omega)) ?_
  refine At.skip ?_
  refine At.seq ?_
  refine At.seq ?_
  refine At.region ?_
  refine AtL.move (.inl rfl) rfl rfl ?_
  refine AtL.move (.inl rfl) rfl rfl ?_
  refine AtL.capL Try.underlying59 (.inl rfl) rfl rfl ?_
  refine AtL.move (.inl rfl) rfl rfl ?_
  refine AtL.lenL Try.underlying59 (.inl rfl) rfl rfl ?_
  refine AtL.sub (z := 0) (.inl rfl) rfl rfl rfl (by decide) ?_
  refine AtL.sub (z := (n : Int)) (.inl rfl) rfl rfl rfl (w64 (by omega) (by omega)) ?_
  refine AtL.assign (.inl rfl) rfl rfl ?_
  refine AtL.done ?_
  refine At.seq ?_
  refine At.region ?_
  refine AtL.move (.inl rfl) rfl rfl ?_
  refine AtL.gtr (.inl rfl) rfl rfl rfl ?_
  refine AtL.done ?_
  refine At.cond rfl ?_ ?_
  · intro hc2
    have hc2 : 0 < (n : Int) := of_decide_eq_true hc2
    refine At.region ?_
    refine AtL.move (.inl rfl) rfl rfl ?_
    refine AtL.move (.inl rfl) rfl rfl ?_
    refine AtL.capL Try.underlying59 (.inl rfl) rfl rfl ?_
    refine AtL.sliceNil rfl (evBound_some rfl rfl) Try.underlying59 tf_sz5 (.inl rfl) rfl rfl ?_
    refine AtL.move (.inl rfl) rfl rfl ?_
    refine AtL.nil ?_
    refine AtL.appendZ (l := ([] : List UInt8)) (m := n) 0 tf_el59 Try.underlying3 rfl (Own.nil tyB 5) (by decide) (by omega) (by first | omega | (simp only [List.length_append, List.length_cons, List.length_nil]; omega) | (simp; done) | (simp; omega)) (by first | omega | (simp only [List.length_append, List.length_cons, List.length_nil]; omega) | (simp; done) | (simp; omega)) (.inl rfl) rfl rfl rfl ?_
    intro A1 C2 s3 o4
    refine AtL.move (.inl rfl) rfl rfl ?_
    refine AtL.lenL Try.underlying59 (.inl rfl) rfl rfl ?_
    have hleo7 := Own.le_cap o4
    refine AtL.sliceO 0 0 C2 o4 rfl (evBound_some rfl rfl) rfl (by intro h; cases h) (by omega) (by omega) (by omega) (Nat.le_refl _) Try.underlying59 tf_sz5 (.inl rfl) rfl rfl ?_
    intro A5 C6 o7
    clear hleo7
    have hlo7 : (subl (([] : List UInt8) ++ List.replicate n (0 : UInt8)) 0 0).length = 0 - 0 := subl_len (by omega)
    refine AtL.assign (.inl rfl) rfl rfl ?_
    refine AtL.done ?_
    refine At.seq ?_
    refine At.region ?_
    refine AtL.move (.inl rfl) rfl rfl ?_
    refine AtL.assign (.inl rfl) rfl rfl ?_
    refine AtL.done ?_
    exact At.ret Try.func59 rfl rfl (⟨_, _, _, o7, rfl, rfl⟩)
  · intro hc2
    have hc2 : ¬ (0 < (n : Int)) := of_decide_eq_false hc2
    refine At.skip ?_
    refine At.seq ?_
    refine At.region ?_
    refine AtL.move (.inl rfl) rfl rfl ?_
    refine AtL.assign (.inl rfl) rfl rfl ?_
    refine AtL.done ?_
    refine At.nil ?_
    exact At.ret Try.func59 rfl rfl (⟨none, 0, [], Own.nil tyB 5, rfl, rfl⟩)

set_option maxHeartbeats 1000000 in
theorem rconcat2 {w0 : World} {base : Nat} {H : List Seg} {b : Nat} {A0 : Option Addr} {C0 : Nat} {l0 : List UInt8} (h0 : Rd tyB w0 base H A0 C0 l0) {A1 : Option Addr} {C1 : Nat} {l1 : List UInt8} (h1 : Rd tyB w0 base H A1 C1 l1) (hl : l0.length + l1.length ≤ 140737488355328) :
    SCalls Try.prog 56 [.slice (some ⟨b, 0, none⟩) 2 2] w0 base ([(b, .cells #[.slice A0 l0.length C0, .slice A1 l1.length C1] 59 (0, 0))] :: H) (fun v H' => ∃ A' C' s', Own tyB 5 A' C' (l0 ++ l1) s' ∧ v = .slice A' (l0 ++ l1).length C' ∧ H' = s' :: [(b, .cells #[.slice A0 l0.length C0, .slice A1 l1.length C1] 59 (0, 0))] :: H) := by
  refine SCalls.of_walk (n := 36) Try.func56 rfl rfl rfl fun cs => ?_
  refine At.seq ?_
  refine At.region ?_
  refine AtL.assign (.inl rfl) rfl rfl ?_
  refine AtL.done ?_
  refine At.seq ?_
  refine At.region ?_
  refine AtL.assign (.inl rfl) rfl rfl ?_
  refine AtL.done ?_
  refine At.seq ?_
  refine At.seq ?_
  refine At.region ?_
  refine AtL.move (.inl rfl) rfl rfl ?_
  refine AtL.lenL Try.underlying88 (.inl rfl) rfl rfl ?_
  refine AtL.move (.inl rfl) rfl rfl ?_
  refine AtL.done ?_
  refine At.block ?_
  refine At.unroll ?_
  refine At.seq ?_
  refine At.region ?_
  refine AtL.lss (.inl rfl) rfl rfl rfl ?_
  refine AtL.done ?_
  refine At.seq ?_
  refine At.condT rfl ?_
  refine At.skip ?_
  refine At.seq ?_
  refine At.block ?_
  refine At.seq ?_
  refine At.region ?_
  refine AtL.indexB 0 Try.underlying88 tf_sz59 (.inl rfl) rfl rfl rfl rfl rfl rfl ?_
  refine AtL.load tf_flat59 (.inl rfl) rfl rfl (Cell.own 0 0 rfl rfl rfl) ?_
  refine AtL.assign (.inl rfl) rfl rfl ?_
  refine AtL.done ?_
  refine At.seq ?_
  refine At.region ?_
  refine AtL.move (.inl rfl) rfl rfl ?_
  refine AtL.move (.inl rfl) rfl rfl ?_
  refine AtL.lenL Try.underlying59 (.inl rfl) rfl rfl ?_
  refine AtL.add (z := 0 + (l0.length : Int)) (.inl rfl) rfl rfl rfl (w64 (by omega) (by omega)) ?_
  refine AtL.assign (.inl rfl) rfl rfl ?_
  refine AtL.done ?_
  refine At.seq ?_
  refine At.region ?_
  refine AtL.move (.inl rfl) rfl rfl ?_
  refine AtL.lss (.inl rfl) rfl rfl rfl ?_
  refine AtL.done ?_
  refine At.condIs false rfl (decide_eq_false (by omega)) ?_
  refine At.skip ?_
  refine At.inBlock ?_
  refine At.region ?_
  refine AtL.add (z := 1) (.inl rfl) rfl rfl rfl (by decide) ?_
  refine AtL.move (.inl rfl) rfl rfl ?_
  refine AtL.done ?_
  refine At.again ?_
  refine At.seq ?_
  refine At.region ?_
  refine AtL.lss (.inl rfl) rfl rfl rfl ?_
  refine AtL.done ?_
  refine At.seq ?_
  refine At.condT rfl ?_
  refine At.skip ?_
  refine At.seq ?_
  refine At.block ?_
  refine At.seq ?_
  refine At.region ?_
  refine AtL.indexB 1 Try.underlying88 tf_sz59 (.inl rfl) rfl rfl rfl rfl rfl rfl ?_
  refine AtL.load tf_flat59 (.inl rfl) rfl rfl (Cell.own 0 0 rfl rfl rfl) ?_
  refine AtL.assign (.inl rfl) rfl rfl ?_
  refine AtL.done ?_
  refine At.seq ?_
  refine At.region ?_
  refine AtL.move (.inl rfl) rfl rfl ?_
  refine AtL.move (.inl rfl) rfl rfl ?_
  refine AtL.lenL Try.underlying59 (.inl rfl) rfl rfl ?_
  refine AtL.add (z := (0 + (l0.length : Int)) + (l1.length : Int)) (.inl rfl) rfl rfl rfl (w64 (by omega) (by omega)) ?_
  refine AtL.assign (.inl rfl) rfl rfl ?_
  refine AtL.done ?_
  refine At.seq ?_
  refine At.region ?_
  refine AtL.move (.inl rfl) rfl rfl ?_
  refine AtL.lss (.inl rfl) rfl rfl rfl ?_
  refine AtL.done ?_
  refine At.condIs false rfl (decide_eq_false (by omega)) ?_
  refine At.skip ?_
  refine At.inBlock ?_
  refine At.region ?_
  refine AtL.add (z := 2) (.inl rfl) rfl rfl rfl (by decide) ?_
  refine AtL.move (.inl rfl) rfl rfl ?_
  refine AtL.done ?_
  refine At.again ?_
  refine At.seq ?_
  refine At.region ?_
  refine AtL.lss (.inl rfl) rfl rfl rfl ?_
  refine AtL.done ?_
  refine At.seq ?_
  refine At.condF rfl ?_
  refine At.exit rfl ?_
  refine At.seq ?_
  refine At.region ?_
  refine AtL.move (.inl rfl) rfl rfl ?_
  refine AtL.call tf_body59 (.inl rfl) rfl rfl (rgrow_ok ((0 + l0.length) + l1.length) (by omega)) ?_
  rintro _ _ ⟨A1, C2, s3, o4, rfl, rfl⟩
  refine AtL.assign (.inl rfl) rfl rfl ?_
  refine AtL.done ?_
  refine At.seq ?_
  refine At.seq ?_
  refine At.region ?_
  refine AtL.move (.inl rfl) rfl rfl ?_
  refine AtL.lenL Try.underlying88 (.inl rfl) rfl rfl ?_
  refine AtL.move (.inl rfl) rfl rfl ?_
  refine AtL.done ?_
  refine At.block ?_
  refine At.unroll ?_
  refine At.seq ?_
  refine At.region ?_
  refine AtL.lss (.inl rfl) rfl rfl rfl ?_
  refine AtL.done ?_
  refine At.seq ?_
  refine At.condT rfl ?_
  refine At.skip ?_
  refine At.seq ?_
  refine At.block ?_
  refine At.seq ?_
  refine At.region ?_
  refine AtL.indexB 0 Try.underlying88 tf_sz59 (.inl rfl) rfl rfl rfl rfl rfl rfl ?_
  refine AtL.load tf_flat59 (.inl rfl) rfl rfl (Cell.own 1 0 rfl rfl rfl) ?_
  refine AtL.assign (.inl rfl) rfl rfl ?_
  refine AtL.done ?_
  refine At.region ?_
  refine AtL.move (.inl rfl) rfl rfl ?_
  refine AtL.move (.inl rfl) rfl rfl ?_
  refine AtL.append (l := ([] : List UInt8)) (news := l0) 0 tf_el59 rfl o4 (Rd.skip 2 h0) (by first | omega | (simp only [List.length_append, List.length_cons, List.length_nil]; omega) | (simp; done) | (simp; omega)) (.inl rfl) rfl rfl rfl ?_
  intro A5 C6 s7 o8
  refine AtL.assign (.inl rfl) rfl rfl ?_
  refine AtL.done ?_
  refine At.inBlock ?_
  refine At.region ?_
  refine AtL.add (z := 1) (.inl rfl) rfl rfl rfl (by decide) ?_
  refine AtL.move (.inl rfl) rfl rfl ?_
  refine AtL.done ?_
  refine At.again ?_
  refine At.seq ?_
  refine At.region ?_
  refine AtL.lss (.inl rfl) rfl rfl rfl ?_
  refine AtL.done ?_
  refine At.seq ?_
  refine At.condT rfl ?_
  refine At.skip ?_
  refine At.seq ?_
  refine At.block ?_
  refine At.seq ?_
  refine At.region ?_
  refine AtL.indexB 1 Try.underlying88 tf_sz59 (.inl rfl) rfl rfl rfl rfl rfl rfl ?_
  refine AtL.load tf_flat59 (.inl rfl) rfl rfl (Cell.own 1 0 rfl rfl rfl) ?_
  refine AtL.assign (.inl rfl) rfl rfl ?_
  refine AtL.done ?_
  refine At.region ?_
  refine AtL.move (.inl rfl) rfl rfl ?_
  refine AtL.move (.inl rfl) rfl rfl ?_
  refine AtL.append (l := ([] : List UInt8) ++ l0) (news := l1) 0 tf_el59 rfl o8 (Rd.skip 2 h1) (by first | omega | (simp only [List.length_append, List.length_cons, List.length_nil]; omega) | (simp; done) | (simp; omega)) (.inl rfl) rfl rfl rfl ?_
  intro A9 C10 s11 o12
  refine AtL.assign (.inl rfl) rfl rfl ?_
  refine AtL.done ?_
  refine At.inBlock ?_
  refine At.region ?_
  refine AtL.add (z := 2) (.inl rfl) rfl rfl rfl (by decide) ?_
  refine AtL.move (.inl rfl) rfl rfl ?_
  refine AtL.done ?_
  refine At.again ?_
  refine At.seq ?_
  refine At.region ?_
  refine AtL.lss (.inl rfl) rfl rfl rfl ?_
  refine AtL.done ?_
  refine At.seq ?_
  refine At.condF rfl ?_
  refine At.exit rfl ?_
  refine At.seq ?_
  refine At.region ?_
  refine AtL.move (.inl rfl) rfl rfl ?_
  refine AtL.assign (.inl rfl) rfl rfl ?_
  refine AtL.done ?_
  exact At.ret Try.func56 rfl rfl (⟨_, _, _, o12, rfl, rfl⟩)

set_option maxHeartbeats 1000000 in
theorem rconcat3 {w0 : World} {base : Nat} {H : List Seg} {b : Nat} {A0 : Option Addr} {C0 : Nat} {l0 : List UInt8} (h0 : Rd tyB w0 base H A0 C0 l0) {A1 : Option Addr} {C1 : Nat} {l1 : List UInt8} (h1 : Rd tyB w0 base H A1 C1 l1) {A2 : Option Addr} {C2 : Nat} {l2 : List UInt8} (h2 : Rd tyB w0 base H A2 C2 l2) (hl : l0.length + l1.length + l2.length ≤ 140737488355328) :
    SCalls Try.prog 56 [.slice (some ⟨b, 0, none⟩) 3 3] w0 base ([(b, .cells #[.slice A0 l0.length C0, .slice A1 l1.length C1, .slice A2 l2.length C2] 59 (0, 0))] :: H) (fun v H' => ∃ A' C' s', Own tyB 5 A' C' (l0 ++ l1 ++ l2) s' ∧ v = .slice A' (l0 ++ l1 ++ l2).length C' ∧ H' = s' :: [(b, .cells #[.slice A0 l0.length C0, .slice A1 l1.length C1, .slice A2 l2.length C2] 59 (0, 0))] :: H) := by
  refine SCalls.of_walk (n := 36) Try.func56 rfl rfl rfl fun cs => ?_
  refine At.seq ?_
  refine At.region ?_
  refine AtL.assign (.inl rfl) rfl rfl ?_
  refine AtL.done ?_
  refine At.seq ?_
  refine At.region ?_
  refine AtL.assign (.inl rfl) rfl rfl ?_
  refine AtL.done ?_
  refine At.seq ?_
  refine At.seq ?_
  refine At.region ?_
  refine AtL.move (.inl rfl) rfl rfl ?_
  refine AtL.lenL Try.underlying88 (.inl rfl) rfl rfl ?_
  refine AtL.move (.inl rfl) rfl rfl ?_
  refine AtL.done ?_
  refine At.block ?_
  refine At.unroll ?_
  refine At.seq ?_
  refine At.region ?_
  refine AtL.lss (.inl rfl) rfl rfl rfl ?_
  refine AtL.done ?_
  refine At.seq ?_
  refine At.condT rfl ?_
  refine At.skip ?_
  refine At.seq ?_
  refine At.block ?_
  refine At.seq ?_
  refine At.region ?_
  refine AtL.indexB 0 Try.underlying88 tf_sz59 (.inl rfl) rfl rfl rfl rfl rfl rfl ?_
  refine AtL.load tf_flat59 (.inl rfl) rfl rfl (Cell.own 0 0 rfl rfl rfl) ?_
  refine AtL.assign (.inl rfl) rfl rfl ?_
  refine AtL.done ?_
  refine At.seq ?_
  refine At.region ?_
  refine AtL.move (.inl rfl) rfl rfl ?_
  refine AtL.move (.inl rfl) rfl rfl ?_
  refine AtL.lenL Try.underlying59 (.inl rfl) rfl rfl ?_
  refine AtL.add (z := 0 + (l0.length : Int)) (.inl rfl) rfl rfl rfl (w64 (by omega) (by omega)) ?_
  refine AtL.assign (.inl rfl) rfl rfl ?_
  refine AtL.done ?_
  refine At.seq ?_
  refine At.region ?_
  refine AtL.move (.inl rfl) rfl rfl ?_
  refine AtL.lss (.inl rfl) rfl rfl rfl ?_
  refine AtL.done ?_
  refine At.condIs false rfl (decide_eq_false (by omega)) ?_
  refine At.skip ?_
  refine At.inBlock ?_
  refine At.region ?_
  refine AtL.add (z := 1) (.inl rfl) rfl rfl rfl (by decide) ?_
  refine AtL.move (.inl rfl) rfl rfl ?_
  refine AtL.done ?_
  refine At.again ?_
  refine At.seq ?_
  refine At.region ?_
  refine AtL.lss (.inl rfl) rfl rfl rfl ?_
  refine AtL.done ?_
  refine At.seq ?_
  refine At.condT rfl ?_
  refine At.skip ?_
  refine At.seq ?_
  refine At.block ?_
  refine At.seq ?_
  refine At.region ?_
  refine AtL.indexB 1 Try.underlying88 tf_sz59 (.inl rfl) rfl rfl rfl rfl rfl rfl ?_
  refine AtL.load tf_flat59 (.inl rfl) rfl rfl (Cell.own 0 0 rfl rfl rfl) ?_
  refine AtL.assign (.inl rfl) rfl rfl ?_
  refine AtL.done ?_
  refine At.seq ?_
  refine At.region ?_
  refine AtL.move (.inl rfl) rfl rfl ?_
  refine AtL.move (.inl rfl) rfl rfl ?_
  refine AtL.lenL Try.underlying59 (.inl rfl) rfl rfl ?_
  refine AtL.add (z := (0 + (l0.length : Int)) + (l1.length : Int)) (.inl rfl) rfl rfl rfl (w64 (by omega) (by omega)) ?_
  refine AtL.assign (.inl rfl) rfl rfl ?_
  refine AtL.done ?_
  refine At.seq ?_
  refine At.region ?_
  refine AtL.move (.inl rfl) rfl rfl ?_
  refine AtL.lss (.inl rfl) rfl rfl rfl ?_
  refine AtL.done ?_
  refine At.condIs false rfl (decide_eq_false (by omega)) ?_
  refine At.skip ?_
  refine At.inBlock ?_
  refine At.region ?_
  refine AtL.add (z := 2) (.inl rfl) rfl rfl rfl (by decide) ?_
  refine AtL.move (.inl rfl) rfl rfl ?_
  refine AtL.done ?_
  refine At.again ?_
  refine At.seq ?_
  refine At.region ?_
  refine AtL.lss (.inl rfl) rfl rfl rfl ?_
  refine AtL.done ?_
  refine At.seq ?_
  refine At.condT rfl ?_
  refine At.skip ?_
  refine At.seq ?_
  refine At.block ?_
  refine At.seq ?_
  refine At.region ?_
  refine AtL.indexB 2 Try.underlying88 tf_sz59 (.inl rfl) rfl rfl rfl rfl rfl rfl ?_
  refine AtL.load tf_flat59 (.inl rfl) rfl rfl (Cell.own 0 0 rfl rfl rfl) ?_
  refine AtL.assign (.inl rfl) rfl rfl ?_
  refine AtL.done ?_
  refine At.seq ?_
  refine At.region ?_
  refine AtL.move (.inl rfl) rfl rfl ?_
  refine AtL.move (.inl rfl) rfl rfl ?_
  refine AtL.lenL Try.underlying59 (.inl rfl) rfl rfl ?_
  refine AtL.add (z := ((0 + (l0.length : Int)) + (l1.length : Int)) + (l2.length : Int)) (.inl rfl) rfl rfl rfl (w64 (by omega) (by omega)) ?_
  refine AtL.assign (.inl rfl) rfl rfl ?_
  refine AtL.done ?_
  refine At.seq ?_
  refine At.region ?_
  refine AtL.move (.inl rfl) rfl rfl ?_
  refine AtL.lss (.inl rfl) rfl rfl rfl ?_
  refine AtL.done ?_
  refine At.condIs false rfl (decide_eq_false (by omega)) ?_
  refine At.skip ?_
  refine At.inBlock ?_
  refine At.region ?_
  refine AtL.add (z := 3) (.inl rfl) rfl rfl rfl (by decide) ?_
  refine AtL.move (.inl rfl) rfl rfl ?_
  refine AtL.done ?_
  refine At.again ?_
  refine At.seq ?_
  refine At.region ?_
  refine AtL.lss (.inl rfl) rfl rfl rfl ?_
  refine AtL.done ?_
  refine At.seq ?_
  refine At.condF rfl ?_
  refine At.exit rfl ?_
  refine At.seq ?_
  refine At.region ?_
  refine AtL.move (.inl rfl) rfl rfl ?_
  refine AtL.call tf_body59 (.inl rfl) rfl rfl (rgrow_ok (((0 + l0.length) + l1.length) + l2.length) (by omega)) ?_
  rintro _ _ ⟨A1, C2, s3, o4, rfl, rfl⟩
  refine AtL.assign (.inl rfl) rfl rfl ?_
  refine AtL.done ?_
  refine At.seq ?_
  refine At.seq ?_
  refine At.region ?_
  refine AtL.move (.inl rfl) rfl rfl ?_
  refine AtL.lenL Try.underlying88 (.inl rfl) rfl rfl ?_
  refine AtL.move (.inl rfl) rfl rfl ?_
  refine AtL.done ?_
  refine At.block ?_
  refine At.unroll ?_
  refine At.seq ?_
  refine At.region ?_
  refine AtL.lss (.inl rfl) rfl rfl rfl ?_
  refine AtL.done ?_
  refine At.seq ?_
  refine At.condT rfl ?_
  refine At.skip ?_
  refine At.seq ?_
  refine At.block ?_
  refine At.seq ?_
  refine At.region ?_
  refine AtL.indexB 0 Try.underlying88 tf_sz59 (.inl rfl) rfl rfl rfl rfl rfl rfl ?_
  refine AtL.load tf_flat59 (.inl rfl) rfl rfl (Cell.own 1 0 rfl rfl rfl) ?_
  refine AtL.assign (.inl rfl) rfl rfl ?_
  refine AtL.done ?_
  refine At.region ?_
  refine AtL.move (.inl rfl) rfl rfl ?_
  refine AtL.move (.inl rfl) rfl rfl ?_
  refine AtL.append (l := ([] : List UInt8)) (news := l0) 0 tf_el59 rfl o4 (Rd.skip 2 h0) (by first | omega | (simp only [List.length_append, List.length_cons, List.length_nil]; omega) | (simp; done) | (simp; omega)) (.inl rfl) rfl rfl rfl ?_
  intro A5 C6 s7 o8
  refine AtL.assign (.inl rfl) rfl rfl ?_
  refine AtL.done ?_
  refine At.inBlock ?_
  refine At.region ?_
  refine AtL.add (z := 1) (.inl rfl) rfl rfl rfl (by decide) ?_
  refine AtL.move (.inl rfl) rfl rfl ?_
  refine AtL.done ?_
  refine At.again ?_
  refine At.seq ?_
  refine At.region ?_
  refine AtL.lss (.inl rfl) rfl rfl rfl ?_
  refine AtL.done ?_
  refine At.seq ?_
  refine At.condT rfl ?_
  refine At.skip ?_
  refine At.seq ?_
  refine At.block ?_
  refine At.seq ?_
  refine At.region ?_
  refine AtL.indexB 1 Try.underlying88 tf_sz59 (.inl rfl) rfl rfl rfl rfl rfl rfl ?_
  refine AtL.load tf_flat59 (.inl rfl) rfl rfl (Cell.own 1 0 rfl rfl rfl) ?_
  refine AtL.assign (.inl rfl) rfl rfl ?_
  refine AtL.done ?_
  refine At.region ?_
  refine AtL.move (.inl rfl) rfl rfl ?_
  refine AtL.move (.inl rfl) rfl rfl ?_
  refine AtL.append (l := ([] : List UInt8) ++ l0) (news := l1) 0 tf_el59 rfl o8 (Rd.skip 2 h1) (by first | omega | (simp only [List.length_append, List.length_cons, List.length_nil]; omega) | (simp; done) | (simp; omega)) (.inl rfl) rfl rfl rfl ?_
  intro A9 C10 s11 o12
  refine AtL.assign (.inl rfl) rfl rfl ?_
  refine AtL.done ?_
  refine At.inBlock ?_
  refine At.region ?_
  refine AtL.add (z := 2) (.inl rfl) rfl rfl rfl (by decide) ?_
  refine AtL.move (.inl rfl) rfl rfl ?_
  refine AtL.done ?_
  refine At.again ?_
  refine At.seq ?_
  refine At.region ?_
  refine AtL.lss (.inl rfl) rfl rfl rfl ?_
  refine AtL.done ?_
  refine At.seq ?_
  refine At.condT rfl ?_
  refine At.skip ?_
  refine At.seq ?_
  refine At.block ?_
  refine At.seq ?_
  refine At.region ?_
  refine AtL.indexB 2 Try.underlying88 tf_sz59 (.inl rfl) rfl rfl rfl rfl rfl rfl ?_
  refine AtL.load tf_flat59 (.inl rfl) rfl rfl (Cell.own 1 0 rfl rfl rfl) ?_
  refine AtL.assign (.inl rfl) rfl rfl ?_
  refine AtL.done ?_
  refine At.region ?_
  refine AtL.move (.inl rfl) rfl rfl ?_
  refine AtL.move (.inl rfl) rfl rfl ?_
  refine AtL.append (l := (([] : List UInt8) ++ l0) ++ l1) (news := l2) 0 tf_el59 rfl o12 (Rd.skip 2 h2) (by first | omega | (simp only [List.length_append, List.length_cons, List.length_nil]; omega) | (simp; done) | (simp; omega)) (.inl rfl) rfl rfl rfl ?_
  intro A13 C14 s15 o16
  refine AtL.assign (.inl rfl) rfl rfl ?_
  refine AtL.done ?_
  refine At.inBlock ?_
  refine At.region ?_
  refine AtL.add (z := 3) (.inl rfl) rfl rfl rfl (by decide) ?_
  refine AtL.move (.inl rfl) rfl rfl ?_
  refine AtL.done ?_
  refine At.again ?_
  refine At.seq ?_
  refine At.region ?_
  refine AtL.lss (.inl rfl) rfl rfl rfl ?_
  refine AtL.done ?_
  refine At.seq ?_
  refine At.condF rfl ?_
  refine At.exit rfl ?_
  refine At.seq ?_
  refine At.region ?_
  refine AtL.move (.inl rfl) rfl rfl ?_
  refine AtL.assign (.inl rfl) rfl rfl ?_
  refine AtL.done ?_
  exact At.ret Try.func56 rfl rfl (⟨_, _, _, o16, rfl, rfl⟩)

end Go.Proofs.Ytllfgcekebafhaa
