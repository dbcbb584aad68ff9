/- Heads: their bytes. -/
import Derived.Test.YtlkdmbpbjhjkfaaGreatDoorH3
namespace Go.Proofs.YtlkdmbpbjhjkfaaGreatDoor
set_option linter.unusedVariables false
set_option linter.unusedSimpArgs false
set_option maxRecDepth 100000

theorem small_cut : ∀ n : Nat, n < 10 → subl [48, 49, 50, 51, 52, 53, 54, 55, 56, 57, 97, 98, 99, 100, 101, 102, 103, 104, 105, 106, 107, 108, 109, 110, 111, 112, 113, 114, 115, 116, 117, 118, 119, 120, 121, 122] n (n + 1) = [UInt8.ofNat (48 + n)] := by decide +kernel

set_option maxHeartbeats 400000 in
theorem small_ok {w0 : World} {base : Nat} {H : List Seg} (n : Nat) (hn : n < 10) :
    SCalls Tryz.prog 151 [.int .i64 (n : Int)] w0 base (H) (fun v H' => v = str [UInt8.ofNat (48 + n)] ∧ H' = H) := by
  refine SCalls.of_walk (n := 15) Tryz.func151 rfl rfl rfl fun cs => ?_
  refine At.seq ?_
  refine At.region ?_
  refine AtL.assign (.inl rfl) rfl rfl ?_
  refine AtL.done ?_
  refine At.seq ?_
  refine At.seq ?_
  refine At.region ?_
  refine AtL.move (.inl rfl) rfl rfl ?_
  refine AtL.lss (.inl rfl) rfl rfl rfl ?_
  refine AtL.done ?_
  refine At.condIs true rfl (decide_eq_true (by omega)) ?_
  refine At.seq ?_
  refine At.region ?_
  refine AtL.move (.inl rfl) rfl rfl ?_
  refine AtL.move (.inl rfl) rfl rfl ?_
  refine AtL.add (z := (n : Int) + 1) (.inl rfl) rfl rfl rfl (w64 (by omega) (by omega)) ?_
  refine AtL.sliceS (l := [48, 49, 50, 51, 52, 53, 54, 55, 56, 57, 97, 98, 99, 100, 101, 102, 103, 104, 105, 106, 107, 108, 109, 110, 111, 112, 113, 114, 115, 116, 117, 118, 119, 120, 121, 122]) n (n + 1) (evBound_some rfl rfl) (evBound_some rfl rfl) (by omega) (by show n + 1 ≤ 36; omega) Tryz.underlying9 (.inl rfl) rfl rfl ?_
  refine AtL.assign (.inl rfl) rfl rfl ?_
  refine AtL.done ?_
  exact At.ret Tryz.func151 rfl rfl (⟨congrArg str (small_cut n hn), rfl⟩)

set_option maxHeartbeats 400000 in
theorem appu_ok {w0 : World} {base : Nat} {H : List Seg} {y : Sl tyB 5} (hy : y.l.length ≤ 140737488355000) (n : Nat) (hn : n < 10) :
    SCalls Tryz.prog 192 [.slice y.A y.l.length y.C, .int .u64 (n : Int), .int .i64 10] w0 base (y.s :: H) (fun v H' => ∃ x : Sl tyB 5, x.l = y.l ++ [UInt8.ofNat (48 + n)] ∧ v = .slice x.A x.l.length x.C ∧ H' = x.s :: H) := by
  refine SCalls.of_walk (n := 36) Tryz.func192 rfl rfl rfl fun cs => ?_
  refine At.seq ?_
  refine At.region ?_
  refine AtL.assign (.inl rfl) rfl rfl ?_
  refine AtL.done ?_
  refine At.seq ?_
  refine At.seq ?_
  refine At.region ?_
  refine AtL.move (.inl rfl) rfl rfl ?_
  refine AtL.eqi (.inl rfl) rfl rfl rfl ?_
  refine AtL.done ?_
  refine At.condT rfl ?_
  refine At.seq ?_
  refine At.seq ?_
  refine At.region ?_
  refine AtL.move (.inl rfl) rfl rfl ?_
  refine AtL.lss (.inl rfl) rfl rfl rfl ?_
  refine AtL.done ?_
  refine At.condIs true rfl (decide_eq_true (by omega)) ?_
  refine At.seq ?_
  refine At.region ?_
  refine AtL.move (.inl rfl) rfl rfl ?_
  refine AtL.move (.inl rfl) rfl rfl ?_
  refine AtL.convInt (z := (n : Int)) Tryz.underlying188 Tryz.underlying3 (.inl rfl) rfl rfl (w64 (by omega) (by omega)) ?_
  refine AtL.call tf_body151 (.inl rfl) rfl rfl (small_ok n (by omega)) ?_
  rintro _ _ ⟨rfl, rfl⟩
  refine AtL.appendS (l := y.l) (news := [UInt8.ofNat (48 + n)]) 0 tf_el22 Tryz.underlying9 rfl y.own (by first | omega | (simp only [List.length_append, List.length_cons, List.length_nil]; omega) | (simp; done) | (simp; omega)) (.inl rfl) rfl rfl rfl ?_
  intro A1 C2 s3 o4
  refine AtL.assign (.inl rfl) rfl rfl ?_
  refine AtL.done ?_
  exact At.ret Tryz.func192 rfl rfl (⟨⟨A1, C2, y.l ++ [UInt8.ofNat (48 + n)], s3, o4⟩, rfl, rfl, rfl⟩)

set_option maxHeartbeats 400000 in
theorem iappi_ok {w0 : World} {base : Nat} {H : List Seg} {y : Sl tyB 5} (hy : y.l.length ≤ 140737488355000) (n : Nat) (hn : n < 10) :
    SCalls Tryz.prog 162 [.slice y.A y.l.length y.C, .int .i64 (n : Int), .int .i64 10] w0 base (y.s :: H) (fun v H' => ∃ x : Sl tyB 5, x.l = y.l ++ [UInt8.ofNat (48 + n)] ∧ v = .slice x.A x.l.length x.C ∧ H' = x.s :: H) := by
  refine SCalls.of_walk (n := 21) Tryz.func162 rfl rfl rfl fun cs => ?_
  refine At.seq ?_
  refine At.region ?_
  refine AtL.assign (.inl rfl) rfl rfl ?_
  refine AtL.done ?_
  refine At.seq ?_
  refine At.region ?_
  refine AtL.move (.inl rfl) rfl rfl ?_
  refine AtL.convInt (z := (n : Int)) Tryz.underlying2 Tryz.underlying188 (.inl rfl) rfl rfl (w64u (by omega) (by omega)) ?_
  refine AtL.assign (.inl rfl) rfl rfl ?_
  refine AtL.done ?_
  refine At.seq ?_
  refine At.seq ?_
  refine At.region ?_
  refine AtL.move (.inl rfl) rfl rfl ?_
  refine AtL.lss (.inl rfl) rfl rfl rfl ?_
  refine AtL.done ?_
  refine At.condIs false rfl (decide_eq_false (by omega)) ?_
  refine At.skip ?_
  refine At.seq ?_
  refine At.region ?_
  refine AtL.move (.inl rfl) rfl rfl ?_
  refine AtL.move (.inl rfl) rfl rfl ?_
  refine AtL.move (.inl rfl) rfl rfl ?_
  refine AtL.call tf_body192 (.inl rfl) rfl rfl (appu_ok (y := y) (by first | omega | (simp only [List.length_append, List.length_cons, List.length_nil]; omega) | (simp; done) | (simp; omega)) n (by omega)) ?_
  rintro _ _ ⟨⟨A1, C2, l3, s4, o5⟩, hx6, rfl, rfl⟩
  obtain rfl : y.l ++ [UInt8.ofNat (48 + n)] = l3 := hx6.symm
  refine AtL.assign (.inl rfl) rfl rfl ?_
  refine AtL.done ?_
  exact At.ret Tryz.func162 rfl rfl (⟨⟨A1, C2, y.l ++ [UInt8.ofNat (48 + n)], s4, o5⟩, rfl, rfl, rfl⟩)

set_option maxHeartbeats 400000 in
theorem appi_ok {w0 : World} {base : Nat} {H : List Seg} {y : Sl tyB 5} (hy : y.l.length ≤ 140737488355000) (n : Nat) (hn : n < 10) :
    SCalls Tryz.prog 127 [.slice y.A y.l.length y.C, .int .i64 (n : Int), .int .i64 10] w0 base (y.s :: H) (fun v H' => ∃ x : Sl tyB 5, x.l = y.l ++ [UInt8.ofNat (48 + n)] ∧ v = .slice x.A x.l.length x.C ∧ H' = x.s :: H) := by
  refine SCalls.of_walk (n := 11) Tryz.func127 rfl rfl rfl fun cs => ?_
  refine At.seq ?_
  refine At.region ?_
  refine AtL.assign (.inl rfl) rfl rfl ?_
  refine AtL.done ?_
  refine At.seq ?_
  refine At.region ?_
  refine AtL.move (.inl rfl) rfl rfl ?_
  refine AtL.move (.inl rfl) rfl rfl ?_
  refine AtL.move (.inl rfl) rfl rfl ?_
  refine AtL.call tf_body162 (.inl rfl) rfl rfl (iappi_ok (y := y) (by first | omega | (simp only [List.length_append, List.length_cons, List.length_nil]; omega) | (simp; done) | (simp; omega)) n (by omega)) ?_
  rintro _ _ ⟨⟨A1, C2, l3, s4, o5⟩, hx6, rfl, rfl⟩
  obtain rfl : y.l ++ [UInt8.ofNat (48 + n)] = l3 := hx6.symm
  refine AtL.assign (.inl rfl) rfl rfl ?_
  refine AtL.done ?_
  exact At.ret Tryz.func127 rfl rfl (⟨⟨A1, C2, y.l ++ [UInt8.ofNat (48 + n)], s4, o5⟩, rfl, rfl, rfl⟩)

end Go.Proofs.YtlkdmbpbjhjkfaaGreatDoor
