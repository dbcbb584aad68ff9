/- HeadKnown: the walk. -/
import Derived.Test.YtlfkoimkojbghaaGreatDoorS1
import Derived.Test.YtlfkoimkojbghaaGreatDoorI2
import Derived.Test.YtlfkoimkojbghaaGreatDoorI3
namespace Go.Proofs.YtlfkoimkojbghaaGreatDoor
set_option linter.unusedVariables false
set_option linter.unusedSimpArgs false
set_option maxRecDepth 100000

theorem length_known {w0 : World} {base : Nat} {H : List Seg} {Ad : Option Addr} {C : Nat} {minor : Int} {fs : List Fld} {a b : Int} (hp : lengthF fs = (a, b)) (h : Rd tyField w0 base H Ad C fs) (hfl : fs.length ≤ 1000) (hb : ∀ f ∈ fs, f.1.length ≤ 140737488355000 ∧ f.2.length ≤ 140737488355000) :
    SCalls Tryz.prog 50 [.agg #[str GET, str SLA, int minor, .slice Ad fs.length C]] w0 base H (fun v H' => v = .tuple #[int a, int b] ∧ H' = H) := by
  have := length_ok (m := GET) (t := SLA) (minor := minor) h hfl hb
  rw [hp] at this
  exact this
theorem keep_known {w0 : World} {base : Nat} {H : List Seg} {Ad : Option Addr} {C : Nat} {minor : Int} {fs : List Fld} {r : Bool} (hp : keepF fs minor = r) (h : Rd tyField w0 base H Ad C fs) (hfl : fs.length ≤ 1000) (hb : ∀ f ∈ fs, f.1.length ≤ 140737488355000 ∧ f.2.length ≤ 140737488355000) (hb4 : ∀ f ∈ fs, f.2.length < 4294967281) (T : Tabs w0 base) :
    SCalls Tryz.prog 54 [.agg #[str GET, str SLA, int minor, .slice Ad fs.length C]] w0 base H (fun v H' => v = .bool r ∧ H' = H) := by
  have := keep_ok (m := GET) (t := SLA) (minor := minor) h hfl hb hb4 T
  rw [hp] at this
  exact this

theorem pk4 : parseF [71, 69, 84, 32, 32, 47, 97, 32, 72, 84, 84, 80, 47, 49, 46, 49, 13, 10, 13, 10] = (HeadV.zero, 400) := by rw [parse_eq]; decide +kernel

theorem pk5 : parseF [71, 69, 84, 32, 97, 32, 72, 84, 84, 80, 47, 49, 46, 48, 13, 10, 13, 10] = (HeadV.zero, 400) := by rw [parse_eq]; decide +kernel

theorem pk6 : parseF [71, 69, 84, 32, 47, 97, 32, 72, 84, 84, 80, 47, 49, 46, 48, 13, 10, 97, 13, 10, 13, 10] = (HeadV.zero, 400) := by rw [parse_eq]; decide +kernel

theorem pk7 : parseF [71, 69, 84, 32, 47, 97, 32, 72, 84, 84, 80, 47, 49, 46, 48, 13, 10, 97, 32, 58, 98, 13, 10, 13, 10] = (HeadV.zero, 400) := by rw [parse_eq]; decide +kernel

theorem pk8 : parseF [] = (HeadV.zero, 400) := by rw [parse_eq]; decide +kernel

theorem pk9 : parseF [71, 69, 84, 32, 47, 97, 32, 72, 84, 84, 80, 47, 49, 46, 48, 10, 10] = (HeadV.zero, 400) := by rw [parse_eq]; decide +kernel

theorem pk10 : parseF [71, 69, 84, 32, 47, 97, 32, 72, 84, 84, 80, 47, 49, 46, 48, 13, 10, 13, 10] = (⟨GET, SLA, 0, []⟩, 200) := by rw [parse_eq]; decide +kernel

theorem lk0 : lengthF (([(([99, 111, 110, 116, 101, 110, 116, 45, 108, 101, 110, 103, 116, 104] : List UInt8), ([55] : List UInt8))]) ++ ([(([67, 111, 110, 116, 101, 110, 116, 45, 76, 101, 110, 103, 116, 104] : List UInt8), ([55] : List UInt8))])) = (7, 200) := by decide +kernel
theorem sb0 : (([(([99, 111, 110, 116, 101, 110, 116, 45, 108, 101, 110, 103, 116, 104] : List UInt8), ([55] : List UInt8))]) ++ ([(([67, 111, 110, 116, 101, 110, 116, 45, 76, 101, 110, 103, 116, 104] : List UInt8), ([55] : List UInt8))]) : List Fld).length ≤ 1000 ∧ (∀ f ∈ (([(([99, 111, 110, 116, 101, 110, 116, 45, 108, 101, 110, 103, 116, 104] : List UInt8), ([55] : List UInt8))]) ++ ([(([67, 111, 110, 116, 101, 110, 116, 45, 76, 101, 110, 103, 116, 104] : List UInt8), ([55] : List UInt8))]) : List Fld), f.1.length ≤ 140737488355000 ∧ f.2.length ≤ 140737488355000) ∧ (∀ f ∈ (([(([99, 111, 110, 116, 101, 110, 116, 45, 108, 101, 110, 103, 116, 104] : List UInt8), ([55] : List UInt8))]) ++ ([(([67, 111, 110, 116, 101, 110, 116, 45, 76, 101, 110, 103, 116, 104] : List UInt8), ([55] : List UInt8))]) : List Fld), f.2.length < 4294967281) := by decide +kernel
theorem lk1 : lengthF ((([(([99, 111, 110, 116, 101, 110, 116, 45, 108, 101, 110, 103, 116, 104] : List UInt8), ([55] : List UInt8))]) ++ ([(([67, 111, 110, 116, 101, 110, 116, 45, 76, 101, 110, 103, 116, 104] : List UInt8), ([55] : List UInt8))])).set 1 ((([67, 111, 110, 116, 101, 110, 116, 45, 76, 101, 110, 103, 116, 104] : List UInt8), ([48, 55] : List UInt8)))) = (0, 400) := by decide +kernel
theorem sb1 : ((([(([99, 111, 110, 116, 101, 110, 116, 45, 108, 101, 110, 103, 116, 104] : List UInt8), ([55] : List UInt8))]) ++ ([(([67, 111, 110, 116, 101, 110, 116, 45, 76, 101, 110, 103, 116, 104] : List UInt8), ([55] : List UInt8))])).set 1 ((([67, 111, 110, 116, 101, 110, 116, 45, 76, 101, 110, 103, 116, 104] : List UInt8), ([48, 55] : List UInt8))) : List Fld).length ≤ 1000 ∧ (∀ f ∈ ((([(([99, 111, 110, 116, 101, 110, 116, 45, 108, 101, 110, 103, 116, 104] : List UInt8), ([55] : List UInt8))]) ++ ([(([67, 111, 110, 116, 101, 110, 116, 45, 76, 101, 110, 103, 116, 104] : List UInt8), ([55] : List UInt8))])).set 1 ((([67, 111, 110, 116, 101, 110, 116, 45, 76, 101, 110, 103, 116, 104] : List UInt8), ([48, 55] : List UInt8))) : List Fld), f.1.length ≤ 140737488355000 ∧ f.2.length ≤ 140737488355000) ∧ (∀ f ∈ ((([(([99, 111, 110, 116, 101, 110, 116, 45, 108, 101, 110, 103, 116, 104] : List UInt8), ([55] : List UInt8))]) ++ ([(([67, 111, 110, 116, 101, 110, 116, 45, 76, 101, 110, 103, 116, 104] : List UInt8), ([55] : List UInt8))])).set 1 ((([67, 111, 110, 116, 101, 110, 116, 45, 76, 101, 110, 103, 116, 104] : List UInt8), ([48, 55] : List UInt8))) : List Fld), f.2.length < 4294967281) := by decide +kernel
theorem lk2 : lengthF ([(([99, 111, 110, 116, 101, 110, 116, 45, 108, 101, 110, 103, 116, 104] : List UInt8), ([55, 48, 48, 48, 48] : List UInt8))]) = (0, 413) := by decide +kernel
theorem sb2 : ([(([99, 111, 110, 116, 101, 110, 116, 45, 108, 101, 110, 103, 116, 104] : List UInt8), ([55, 48, 48, 48, 48] : List UInt8))] : List Fld).length ≤ 1000 ∧ (∀ f ∈ ([(([99, 111, 110, 116, 101, 110, 116, 45, 108, 101, 110, 103, 116, 104] : List UInt8), ([55, 48, 48, 48, 48] : List UInt8))] : List Fld), f.1.length ≤ 140737488355000 ∧ f.2.length ≤ 140737488355000) ∧ (∀ f ∈ ([(([99, 111, 110, 116, 101, 110, 116, 45, 108, 101, 110, 103, 116, 104] : List UInt8), ([55, 48, 48, 48, 48] : List UInt8))] : List Fld), f.2.length < 4294967281) := by decide +kernel
theorem lk3 : lengthF ([(([99, 111, 110, 116, 101, 110, 116, 45, 108, 101, 110, 103, 116, 104] : List UInt8), ([120] : List UInt8))]) = (0, 400) := by decide +kernel
theorem sb3 : ([(([99, 111, 110, 116, 101, 110, 116, 45, 108, 101, 110, 103, 116, 104] : List UInt8), ([120] : List UInt8))] : List Fld).length ≤ 1000 ∧ (∀ f ∈ ([(([99, 111, 110, 116, 101, 110, 116, 45, 108, 101, 110, 103, 116, 104] : List UInt8), ([120] : List UInt8))] : List Fld), f.1.length ≤ 140737488355000 ∧ f.2.length ≤ 140737488355000) ∧ (∀ f ∈ ([(([99, 111, 110, 116, 101, 110, 116, 45, 108, 101, 110, 103, 116, 104] : List UInt8), ([120] : List UInt8))] : List Fld), f.2.length < 4294967281) := by decide +kernel
theorem lk4 : lengthF ([(([97] : List UInt8), ([55] : List UInt8))]) = ((-1), 200) := by decide +kernel
theorem sb4 : ([(([97] : List UInt8), ([55] : List UInt8))] : List Fld).length ≤ 1000 ∧ (∀ f ∈ ([(([97] : List UInt8), ([55] : List UInt8))] : List Fld), f.1.length ≤ 140737488355000 ∧ f.2.length ≤ 140737488355000) ∧ (∀ f ∈ ([(([97] : List UInt8), ([55] : List UInt8))] : List Fld), f.2.length < 4294967281) := by decide +kernel
theorem kk0 : keepF ([(([97] : List UInt8), ([98] : List UInt8))]) (1) = true := by decide +kernel
theorem sb5 : ([(([97] : List UInt8), ([98] : List UInt8))] : List Fld).length ≤ 1000 ∧ (∀ f ∈ ([(([97] : List UInt8), ([98] : List UInt8))] : List Fld), f.1.length ≤ 140737488355000 ∧ f.2.length ≤ 140737488355000) ∧ (∀ f ∈ ([(([97] : List UInt8), ([98] : List UInt8))] : List Fld), f.2.length < 4294967281) := by decide +kernel
theorem kk1 : keepF ([(([97] : List UInt8), ([98] : List UInt8))]) (0) = false := by decide +kernel
theorem kk2 : keepF ([(([99, 111, 110, 110, 101, 99, 116, 105, 111, 110] : List UInt8), ([75, 101, 101, 112, 45, 65, 108, 105, 118, 101] : List UInt8))]) (0) = true := by decide +kernel
theorem sb6 : ([(([99, 111, 110, 110, 101, 99, 116, 105, 111, 110] : List UInt8), ([75, 101, 101, 112, 45, 65, 108, 105, 118, 101] : List UInt8))] : List Fld).length ≤ 1000 ∧ (∀ f ∈ ([(([99, 111, 110, 110, 101, 99, 116, 105, 111, 110] : List UInt8), ([75, 101, 101, 112, 45, 65, 108, 105, 118, 101] : List UInt8))] : List Fld), f.1.length ≤ 140737488355000 ∧ f.2.length ≤ 140737488355000) ∧ (∀ f ∈ ([(([99, 111, 110, 110, 101, 99, 116, 105, 111, 110] : List UInt8), ([75, 101, 101, 112, 45, 65, 108, 105, 118, 101] : List UInt8))] : List Fld), f.2.length < 4294967281) := by decide +kernel
theorem kk3 : keepF ([(([99, 111, 110, 110, 101, 99, 116, 105, 111, 110] : List UInt8), ([97, 44, 32, 67, 108, 111, 115, 101] : List UInt8))]) (1) = false := by decide +kernel
theorem sb7 : ([(([99, 111, 110, 110, 101, 99, 116, 105, 111, 110] : List UInt8), ([97, 44, 32, 67, 108, 111, 115, 101] : List UInt8))] : List Fld).length ≤ 1000 ∧ (∀ f ∈ ([(([99, 111, 110, 110, 101, 99, 116, 105, 111, 110] : List UInt8), ([97, 44, 32, 67, 108, 111, 115, 101] : List UInt8))] : List Fld), f.1.length ≤ 140737488355000 ∧ f.2.length ≤ 140737488355000) ∧ (∀ f ∈ ([(([99, 111, 110, 110, 101, 99, 116, 105, 111, 110] : List UInt8), ([97, 44, 32, 67, 108, 111, 115, 101] : List UInt8))] : List Fld), f.2.length < 4294967281) := by decide +kernel

set_option maxHeartbeats 400000 in
theorem headknown_ok {w0 : World} {base : Nat} {H : List Seg} (T : Tabs w0 base) :
    SCalls Tryz.prog 11 [] w0 base (H) (fun v H' => v = .bool true ∧ H' = H) := by
  refine SCalls.of_walk (n := 129) Tryz.func11 rfl rfl rfl fun cs => ?_
  refine At.seq ?_
  refine At.region ?_
  refine AtL.assign (.inl rfl) rfl rfl ?_
  refine AtL.done ?_
  refine At.seq ?_
  refine At.region ?_
  refine AtL.call tf_body56 (.inl rfl) rfl rfl (status_known (b := [71, 69, 84, 32, 47, 97, 32, 72, 84, 84, 80, 47, 49, 46, 48, 13, 10, 13, 10]) pk10 (by decide) T) ?_
  rintro _ _ ⟨rfl, hHq⟩
  obtain rfl := hHq.symm
  refine AtL.eqi (.inl rfl) rfl rfl rfl ?_
  refine AtL.move (.inl rfl) rfl rfl ?_
  refine AtL.call tf_body56 (.inr ⟨_, _, _, rfl, rfl, rfl, rfl⟩) rfl rfl (status_known (b := [71, 69, 84, 32, 32, 47, 97, 32, 72, 84, 84, 80, 47, 49, 46, 49, 13, 10, 13, 10]) pk4 (by decide) T) ?_
  rintro _ _ ⟨rfl, hHq⟩
  obtain rfl := hHq.symm
  refine AtL.eqi (.inr ⟨_, _, _, rfl, rfl, rfl, rfl⟩) rfl rfl rfl ?_
  refine AtL.pickT (.inl rfl) rfl rfl rfl ?_
  refine AtL.move (.inl rfl) rfl rfl ?_
  refine AtL.call tf_body56 (.inr ⟨_, _, _, rfl, rfl, rfl, rfl⟩) rfl rfl (status_known (b := [71, 69, 84, 32, 97, 32, 72, 84, 84, 80, 47, 49, 46, 48, 13, 10, 13, 10]) pk5 (by decide) T) ?_
  rintro _ _ ⟨rfl, hHq⟩
  obtain rfl := hHq.symm
  refine AtL.eqi (.inr ⟨_, _, _, rfl, rfl, rfl, rfl⟩) rfl rfl rfl ?_
  refine AtL.pickT (.inl rfl) rfl rfl rfl ?_
  refine AtL.move (.inl rfl) rfl rfl ?_
  refine AtL.call tf_body56 (.inr ⟨_, _, _, rfl, rfl, rfl, rfl⟩) rfl rfl (status_known (b := [71, 69, 84, 32, 47, 97, 32, 72, 84, 84, 80, 47, 49, 46, 48, 13, 10, 97, 13, 10, 13, 10]) pk6 (by decide) T) ?_
  rintro _ _ ⟨rfl, hHq⟩
  obtain rfl := hHq.symm
  refine AtL.eqi (.inr ⟨_, _, _, rfl, rfl, rfl, rfl⟩) rfl rfl rfl ?_
  refine AtL.pickT (.inl rfl) rfl rfl rfl ?_
  refine AtL.assign (.inl rfl) rfl rfl ?_
  refine AtL.done ?_
  refine At.seq ?_
  refine At.region ?_
  refine AtL.call tf_body56 (.inl rfl) rfl rfl (status_known (b := [71, 69, 84, 32, 47, 97, 32, 72, 84, 84, 80, 47, 49, 46, 48, 13, 10, 97, 32, 58, 98, 13, 10, 13, 10]) pk7 (by decide) T) ?_
  rintro _ _ ⟨rfl, hHq⟩
  obtain rfl := hHq.symm
  refine AtL.eqi (.inl rfl) rfl rfl rfl ?_
  refine AtL.move (.inl rfl) rfl rfl ?_
  refine AtL.call tf_body56 (.inr ⟨_, _, _, rfl, rfl, rfl, rfl⟩) rfl rfl (status_known (b := []) pk8 (by decide) T) ?_
  rintro _ _ ⟨rfl, hHq⟩
  obtain rfl := hHq.symm
  refine AtL.eqi (.inr ⟨_, _, _, rfl, rfl, rfl, rfl⟩) rfl rfl rfl ?_
  refine AtL.pickT (.inl rfl) rfl rfl rfl ?_
  refine AtL.move (.inl rfl) rfl rfl ?_
  refine AtL.call tf_body56 (.inr ⟨_, _, _, rfl, rfl, rfl, rfl⟩) rfl rfl (status_known (b := [71, 69, 84, 32, 47, 97, 32, 72, 84, 84, 80, 47, 49, 46, 48, 10, 10]) pk9 (by decide) T) ?_
  rintro _ _ ⟨rfl, hHq⟩
  obtain rfl := hHq.symm
  refine AtL.eqi (.inr ⟨_, _, _, rfl, rfl, rfl, rfl⟩) rfl rfl rfl ?_
  refine AtL.pickT (.inl rfl) rfl rfl rfl ?_
  refine AtL.assign (.inl rfl) rfl rfl ?_
  refine AtL.done ?_
  refine At.seq ?_
  refine At.region ?_
  refine AtL.call tf_body49 (.inl rfl) rfl rfl (of_ok 1 [99, 111, 110, 116, 101, 110, 116, 45, 108, 101, 110, 103, 116, 104] [55]) ?_
  rintro _ _ ⟨⟨A1, C2, l3, s4, o5⟩, hx6, rfl, rfl⟩
  obtain rfl : [(([99, 111, 110, 116, 101, 110, 116, 45, 108, 101, 110, 103, 116, 104] : List UInt8), ([55] : List UInt8))] = l3 := hx6.symm
  refine AtL.alloc tf_zero35 (cs := #[str [], str [], .int .i64 0, .slice none 0 0]) rfl (.inl rfl) rfl ?_
  intro b7
  refine AtL.store (H' := [(b7, .cells #[str GET, str SLA, .int .i64 1, .slice A1 ([(([99, 111, 110, 116, 101, 110, 116, 45, 108, 101, 110, 103, 116, 104] : List UInt8), ([55] : List UInt8))]).length C2] 35 (0, 0))] :: s4 :: H) 0 0 tf_sz35 (.inl rfl) rfl rfl rfl rfl rfl rfl rfl rfl rfl ?_
  refine AtL.done ?_
  refine At.seq ?_
  refine At.region ?_
  refine AtL.fieldAddrB tf_fo35_3 (.inl rfl) rfl rfl rfl ?_
  refine AtL.load tf_flat33 (.inl rfl) rfl rfl (Cell.own 0 0 rfl rfl rfl) ?_
  refine AtL.build (cs := [str [67, 111, 110, 116, 101, 110, 116, 45, 76, 101, 110, 103, 116, 104], str [55]]) tf_lay52 (.inl rfl) rfl rfl rfl ?_
  refine AtL.buildSlice (cs := [str [67, 111, 110, 116, 101, 110, 116, 45, 76, 101, 110, 103, 116, 104], str [55]]) Tryz.underlying33 tf_zero52 tf_sz52 rfl rfl (.inl rfl) rfl rfl rfl ?_
  intro b8
  refine AtL.own1 tyField (l := ([(([67, 111, 110, 116, 101, 110, 116, 45, 76, 101, 110, 103, 116, 104] : List UInt8), ([55] : List UInt8))] : List (List UInt8 × List UInt8))) rfl rfl (by first | decide | simp) ?_
  intro s9 o10
  refine AtL.append (l := [(([99, 111, 110, 116, 101, 110, 116, 45, 108, 101, 110, 103, 116, 104] : List UInt8), ([55] : List UInt8))]) (news := [(([67, 111, 110, 116, 101, 110, 116, 45, 76, 101, 110, 103, 116, 104] : List UInt8), ([55] : List UInt8))]) 2 tf_el33 rfl o5 (o10.rd (i := 0) rfl) (by first | omega | (simp only [List.length_append, List.length_cons, List.length_nil]; omega) | (simp; done) | (simp; omega)) (.inl rfl) rfl rfl rfl ?_
  intro A11 C12 s13 o14
  refine AtL.fieldAddrB tf_fo35_3 (.inl rfl) rfl rfl rfl ?_
  refine AtL.store (H' := s9 :: [(b7, .cells #[str GET, str SLA, .int .i64 1, .slice A11 (([(([99, 111, 110, 116, 101, 110, 116, 45, 108, 101, 110, 103, 116, 104] : List UInt8), ([55] : List UInt8))]) ++ ([(([67, 111, 110, 116, 101, 110, 116, 45, 76, 101, 110, 103, 116, 104] : List UInt8), ([55] : List UInt8))])).length C12] 35 (0, 0))] :: s13 :: H) 1 0 tf_sz33 (.inl rfl) rfl rfl rfl rfl rfl rfl rfl rfl rfl ?_
  refine AtL.done ?_
  refine At.seq ?_
  refine At.region ?_
  refine AtL.loadN (cs := [str GET, str SLA, .int .i64 1, .slice A11 (([(([99, 111, 110, 116, 101, 110, 116, 45, 108, 101, 110, 103, 116, 104] : List UInt8), ([55] : List UInt8))]) ++ ([(([67, 111, 110, 116, 101, 110, 116, 45, 76, 101, 110, 103, 116, 104] : List UInt8), ([55] : List UInt8))])).length C12]) tf_agg35 (.inl rfl) rfl rfl rfl (cellsOwn 1 0 0 rfl rfl rfl) ?_
  refine AtL.call tf_body50 (.inl rfl) rfl rfl (length_known lk0 (o14.rd (i := 2) rfl) sb0.1 sb0.2.1) ?_
  rintro _ _ ⟨rfl, rfl⟩
  refine AtL.move (.inl rfl) rfl rfl ?_
  refine AtL.extract (.inl rfl) rfl rfl rfl ?_
  refine AtL.extract (.inl rfl) rfl rfl rfl ?_
  refine AtL.assign (.inl rfl) rfl rfl ?_
  refine AtL.assign (.inl rfl) rfl rfl ?_
  refine AtL.done ?_
  refine At.seq ?_
  refine At.region ?_
  refine AtL.fieldAddrB tf_fo35_3 (.inl rfl) rfl rfl rfl ?_
  refine AtL.load tf_flat33 (.inl rfl) rfl rfl (Cell.own 1 0 rfl rfl rfl) ?_
  refine AtL.indexL 1 (o14.rd (i := 2) rfl) Tryz.underlying33 tf_sz52 (.inl rfl) rfl rfl rfl rfl (by decide) ?_
  refine AtL.fieldAddr tf_fo52_1 (.inl rfl) rfl rfl ?_
  refine AtL.setField (u := ((([67, 111, 110, 116, 101, 110, 116, 45, 76, 101, 110, 103, 116, 104] : List UInt8), ([48, 55] : List UInt8)))) (z := ((([67, 111, 110, 116, 101, 110, 116, 45, 76, 101, 110, 103, 116, 104] : List UInt8), ([55] : List UInt8)))) 2 1 1 tf_sz9 rfl o14 rfl (by decide) rfl rfl rfl (.inl rfl) rfl rfl ?_
  intro s15 o16
  refine AtL.eqH (H' := s9 :: [(b7, .cells #[str GET, str SLA, .int .i64 1, .slice A11 ((([(([99, 111, 110, 116, 101, 110, 116, 45, 108, 101, 110, 103, 116, 104] : List UInt8), ([55] : List UInt8))]) ++ ([(([67, 111, 110, 116, 101, 110, 116, 45, 76, 101, 110, 103, 116, 104] : List UInt8), ([55] : List UInt8))])).set 1 ((([67, 111, 110, 116, 101, 110, 116, 45, 76, 101, 110, 103, 116, 104] : List UInt8), ([48, 55] : List UInt8)))).length C12] 35 (0, 0))] :: s15 :: H) (by first | (rw [show ((([(([99, 111, 110, 116, 101, 110, 116, 45, 108, 101, 110, 103, 116, 104] : List UInt8), ([55] : List UInt8))]) ++ ([(([67, 111, 110, 116, 101, 110, 116, 45, 76, 101, 110, 103, 116, 104] : List UInt8), ([55] : List UInt8))])).set 1 ((([67, 111, 110, 116, 101, 110, 116, 45, 76, 101, 110, 103, 116, 104] : List UInt8), ([48, 55] : List UInt8)))).length = (([(([99, 111, 110, 116, 101, 110, 116, 45, 108, 101, 110, 103, 116, 104] : List UInt8), ([55] : List UInt8))]) ++ ([(([67, 111, 110, 116, 101, 110, 116, 45, 76, 101, 110, 103, 116, 104] : List UInt8), ([55] : List UInt8))])).length from (List.length_set)]; done) | (rw [show ((([(([99, 111, 110, 116, 101, 110, 116, 45, 108, 101, 110, 103, 116, 104] : List UInt8), ([55] : List UInt8))]) ++ ([(([67, 111, 110, 116, 101, 110, 116, 45, 76, 101, 110, 103, 116, 104] : List UInt8), ([55] : List UInt8))])).set 1 ((([67, 111, 110, 116, 101, 110, 116, 45, 76, 101, 110, 103, 116, 104] : List UInt8), ([48, 55] : List UInt8)))).length = (([(([99, 111, 110, 116, 101, 110, 116, 45, 108, 101, 110, 103, 116, 104] : List UInt8), ([55] : List UInt8))]) ++ ([(([67, 111, 110, 116, 101, 110, 116, 45, 76, 101, 110, 103, 116, 104] : List UInt8), ([55] : List UInt8))])).length from (List.length_set)]; rfl)) ?_
  refine AtL.done ?_
  refine At.seq ?_
  refine At.region ?_
  refine AtL.loadN (cs := [str GET, str SLA, .int .i64 1, .slice A11 ((([(([99, 111, 110, 116, 101, 110, 116, 45, 108, 101, 110, 103, 116, 104] : List UInt8), ([55] : List UInt8))]) ++ ([(([67, 111, 110, 116, 101, 110, 116, 45, 76, 101, 110, 103, 116, 104] : List UInt8), ([55] : List UInt8))])).set 1 ((([67, 111, 110, 116, 101, 110, 116, 45, 76, 101, 110, 103, 116, 104] : List UInt8), ([48, 55] : List UInt8)))).length C12]) tf_agg35 (.inl rfl) rfl rfl rfl (cellsOwn 1 0 0 rfl rfl rfl) ?_
  refine AtL.call tf_body50 (.inl rfl) rfl rfl (length_known lk1 (o16.rd (i := 2) rfl) sb1.1 sb1.2.1) ?_
  rintro _ _ ⟨rfl, rfl⟩
  refine AtL.move (.inl rfl) rfl rfl ?_
  refine AtL.extract (.inl rfl) rfl rfl rfl ?_
  refine AtL.extract (.inl rfl) rfl rfl rfl ?_
  refine AtL.assign (.inl rfl) rfl rfl ?_
  refine AtL.assign (.inl rfl) rfl rfl ?_
  refine AtL.done ?_
  refine At.seq ?_
  refine At.region ?_
  refine AtL.call tf_body49 (.inl rfl) rfl rfl (of_ok 1 [99, 111, 110, 116, 101, 110, 116, 45, 108, 101, 110, 103, 116, 104] [55, 48, 48, 48, 48]) ?_
  rintro _ _ ⟨⟨A17, C18, l19, s20, o21⟩, hx22, rfl, rfl⟩
  obtain rfl : [(([99, 111, 110, 116, 101, 110, 116, 45, 108, 101, 110, 103, 116, 104] : List UInt8), ([55, 48, 48, 48, 48] : List UInt8))] = l19 := hx22.symm
  refine AtL.call tf_body50 (.inl rfl) rfl rfl (length_known lk2 (o21.rd (i := 0) rfl) sb2.1 sb2.2.1) ?_
  rintro _ _ ⟨rfl, rfl⟩
  refine AtL.move (.inl rfl) rfl rfl ?_
  refine AtL.extract (.inl rfl) rfl rfl rfl ?_
  refine AtL.extract (.inl rfl) rfl rfl rfl ?_
  refine AtL.assign (.inl rfl) rfl rfl ?_
  refine AtL.assign (.inl rfl) rfl rfl ?_
  refine AtL.done ?_
  refine At.seq ?_
  refine At.region ?_
  refine AtL.call tf_body49 (.inl rfl) rfl rfl (of_ok 1 [99, 111, 110, 116, 101, 110, 116, 45, 108, 101, 110, 103, 116, 104] [120]) ?_
  rintro _ _ ⟨⟨A23, C24, l25, s26, o27⟩, hx28, rfl, rfl⟩
  obtain rfl : [(([99, 111, 110, 116, 101, 110, 116, 45, 108, 101, 110, 103, 116, 104] : List UInt8), ([120] : List UInt8))] = l25 := hx28.symm
  refine AtL.call tf_body50 (.inl rfl) rfl rfl (length_known lk3 (o27.rd (i := 0) rfl) sb3.1 sb3.2.1) ?_
  rintro _ _ ⟨rfl, rfl⟩
  refine AtL.move (.inl rfl) rfl rfl ?_
  refine AtL.extract (.inl rfl) rfl rfl rfl ?_
  refine AtL.extract (.inl rfl) rfl rfl rfl ?_
  refine AtL.assign (.inl rfl) rfl rfl ?_
  refine AtL.assign (.inl rfl) rfl rfl ?_
  refine AtL.done ?_
  refine At.seq ?_
  refine At.region ?_
  refine AtL.call tf_body49 (.inl rfl) rfl rfl (of_ok 1 [97] [55]) ?_
  rintro _ _ ⟨⟨A29, C30, l31, s32, o33⟩, hx34, rfl, rfl⟩
  obtain rfl : [(([97] : List UInt8), ([55] : List UInt8))] = l31 := hx34.symm
  refine AtL.call tf_body50 (.inl rfl) rfl rfl (length_known lk4 (o33.rd (i := 0) rfl) sb4.1 sb4.2.1) ?_
  rintro _ _ ⟨rfl, rfl⟩
  refine AtL.move (.inl rfl) rfl rfl ?_
  refine AtL.extract (.inl rfl) rfl rfl rfl ?_
  refine AtL.extract (.inl rfl) rfl rfl rfl ?_
  refine AtL.assign (.inl rfl) rfl rfl ?_
  refine AtL.assign (.inl rfl) rfl rfl ?_
  refine AtL.done ?_
  refine At.seq ?_
  refine At.region ?_
  refine AtL.move (.inl rfl) rfl rfl ?_
  refine AtL.eqi (.inl rfl) rfl rfl rfl ?_
  refine AtL.move (.inl rfl) rfl rfl ?_
  refine AtL.move (.inr ⟨_, _, _, rfl, rfl, rfl, rfl⟩) rfl rfl ?_
  refine AtL.eqi (.inr ⟨_, _, _, rfl, rfl, rfl, rfl⟩) rfl rfl rfl ?_
  refine AtL.pickT (.inl rfl) rfl rfl rfl ?_
  refine AtL.move (.inl rfl) rfl rfl ?_
  refine AtL.move (.inr ⟨_, _, _, rfl, rfl, rfl, rfl⟩) rfl rfl ?_
  refine AtL.eqi (.inr ⟨_, _, _, rfl, rfl, rfl, rfl⟩) rfl rfl rfl ?_
  refine AtL.pickT (.inl rfl) rfl rfl rfl ?_
  refine AtL.move (.inl rfl) rfl rfl ?_
  refine AtL.move (.inr ⟨_, _, _, rfl, rfl, rfl, rfl⟩) rfl rfl ?_
  refine AtL.eqi (.inr ⟨_, _, _, rfl, rfl, rfl, rfl⟩) rfl rfl rfl ?_
  refine AtL.pickT (.inl rfl) rfl rfl rfl ?_
  refine AtL.move (.inl rfl) rfl rfl ?_
  refine AtL.move (.inr ⟨_, _, _, rfl, rfl, rfl, rfl⟩) rfl rfl ?_
  refine AtL.eqi (.inr ⟨_, _, _, rfl, rfl, rfl, rfl⟩) rfl rfl rfl ?_
  refine AtL.pickT (.inl rfl) rfl rfl rfl ?_
  refine AtL.move (.inl rfl) rfl rfl ?_
  refine AtL.move (.inr ⟨_, _, _, rfl, rfl, rfl, rfl⟩) rfl rfl ?_
  refine AtL.eqi (.inr ⟨_, _, _, rfl, rfl, rfl, rfl⟩) rfl rfl rfl ?_
  refine AtL.pickT (.inl rfl) rfl rfl rfl ?_
  refine AtL.move (.inl rfl) rfl rfl ?_
  refine AtL.move (.inr ⟨_, _, _, rfl, rfl, rfl, rfl⟩) rfl rfl ?_
  refine AtL.eqi (.inr ⟨_, _, _, rfl, rfl, rfl, rfl⟩) rfl rfl rfl ?_
  refine AtL.pickT (.inl rfl) rfl rfl rfl ?_
  refine AtL.assign (.inl rfl) rfl rfl ?_
  refine AtL.done ?_
  refine At.seq ?_
  refine At.region ?_
  refine AtL.call tf_body31 (.inl rfl) rfl rfl (awake_ok T) ?_
  rintro _ _ ⟨rfl, rfl⟩
  refine AtL.move (.inl rfl) rfl rfl ?_
  refine AtL.move (.inr ⟨_, _, _, rfl, rfl, rfl, rfl⟩) rfl rfl ?_
  refine AtL.pickT (.inl rfl) rfl rfl rfl ?_
  refine AtL.move (.inl rfl) rfl rfl ?_
  refine AtL.move (.inr ⟨_, _, _, rfl, rfl, rfl, rfl⟩) rfl rfl ?_
  refine AtL.pickT (.inl rfl) rfl rfl rfl ?_
  refine AtL.move (.inl rfl) rfl rfl ?_
  refine AtL.move (.inr ⟨_, _, _, rfl, rfl, rfl, rfl⟩) rfl rfl ?_
  refine AtL.pickT (.inl rfl) rfl rfl rfl ?_
  refine AtL.move (.inl rfl) rfl rfl ?_
  refine AtL.call tf_body49 (.inr ⟨_, _, _, rfl, rfl, rfl, rfl⟩) rfl rfl (of_ok 1 [97] [98]) ?_
  rintro _ _ ⟨⟨A35, C36, l37, s38, o39⟩, hx40, rfl, rfl⟩
  obtain rfl : [(([97] : List UInt8), ([98] : List UInt8))] = l37 := hx40.symm
  refine AtL.call tf_body54 (.inr ⟨_, _, _, rfl, rfl, rfl, rfl⟩) rfl rfl (keep_known kk0 (o39.rd (i := 0) rfl) sb5.1 sb5.2.1 sb5.2.2 T) ?_
  rintro _ _ ⟨rfl, rfl⟩
  refine AtL.pickT (.inl rfl) rfl rfl rfl ?_
  refine AtL.move (.inl rfl) rfl rfl ?_
  refine AtL.call tf_body49 (.inr ⟨_, _, _, rfl, rfl, rfl, rfl⟩) rfl rfl (of_ok 0 [97] [98]) ?_
  rintro _ _ ⟨⟨A41, C42, l43, s44, o45⟩, hx46, rfl, rfl⟩
  obtain rfl : [(([97] : List UInt8), ([98] : List UInt8))] = l43 := hx46.symm
  refine AtL.call tf_body54 (.inr ⟨_, _, _, rfl, rfl, rfl, rfl⟩) rfl rfl (keep_known kk1 (o45.rd (i := 0) rfl) sb5.1 sb5.2.1 sb5.2.2 T) ?_
  rintro _ _ ⟨rfl, rfl⟩
  refine AtL.not (.inr ⟨_, _, _, rfl, rfl, rfl, rfl⟩) rfl rfl ?_
  refine AtL.pickT (.inl rfl) rfl rfl rfl ?_
  refine AtL.move (.inl rfl) rfl rfl ?_
  refine AtL.call tf_body49 (.inr ⟨_, _, _, rfl, rfl, rfl, rfl⟩) rfl rfl (of_ok 0 [99, 111, 110, 110, 101, 99, 116, 105, 111, 110] [75, 101, 101, 112, 45, 65, 108, 105, 118, 101]) ?_
  rintro _ _ ⟨⟨A47, C48, l49, s50, o51⟩, hx52, rfl, rfl⟩
  obtain rfl : [(([99, 111, 110, 110, 101, 99, 116, 105, 111, 110] : List UInt8), ([75, 101, 101, 112, 45, 65, 108, 105, 118, 101] : List UInt8))] = l49 := hx52.symm
  refine AtL.call tf_body54 (.inr ⟨_, _, _, rfl, rfl, rfl, rfl⟩) rfl rfl (keep_known kk2 (o51.rd (i := 0) rfl) sb6.1 sb6.2.1 sb6.2.2 T) ?_
  rintro _ _ ⟨rfl, rfl⟩
  refine AtL.pickT (.inl rfl) rfl rfl rfl ?_
  refine AtL.move (.inl rfl) rfl rfl ?_
  refine AtL.call tf_body49 (.inr ⟨_, _, _, rfl, rfl, rfl, rfl⟩) rfl rfl (of_ok 1 [99, 111, 110, 110, 101, 99, 116, 105, 111, 110] [97, 44, 32, 67, 108, 111, 115, 101]) ?_
  rintro _ _ ⟨⟨A53, C54, l55, s56, o57⟩, hx58, rfl, rfl⟩
  obtain rfl : [(([99, 111, 110, 110, 101, 99, 116, 105, 111, 110] : List UInt8), ([97, 44, 32, 67, 108, 111, 115, 101] : List UInt8))] = l55 := hx58.symm
  refine AtL.call tf_body54 (.inr ⟨_, _, _, rfl, rfl, rfl, rfl⟩) rfl rfl (keep_known kk3 (o57.rd (i := 0) rfl) sb7.1 sb7.2.1 sb7.2.2 T) ?_
  rintro _ _ ⟨rfl, rfl⟩
  refine AtL.not (.inr ⟨_, _, _, rfl, rfl, rfl, rfl⟩) rfl rfl ?_
  refine AtL.pickT (.inl rfl) rfl rfl rfl ?_
  refine AtL.assign (.inl rfl) rfl rfl ?_
  refine AtL.done ?_
  refine At.pick (H' := H) [] 10 rfl rfl ?_
  exact At.ret Tryz.func11 rfl rfl (⟨rfl, rfl⟩)

end Go.Proofs.YtlfkoimkojbghaaGreatDoor
