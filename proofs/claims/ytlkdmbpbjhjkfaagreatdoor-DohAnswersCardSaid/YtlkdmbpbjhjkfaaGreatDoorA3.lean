/- Responses with messages: Answer. -/
import Derived.Test.YtlkdmbpbjhjkfaaGreatDoorA2
namespace Go.Proofs.YtlkdmbpbjhjkfaaGreatDoor
set_option linter.unusedVariables false
set_option linter.unusedSimpArgs false
set_option maxRecDepth 100000

def CTN16 : List UInt8 := [67, 111, 110, 116, 101, 110, 116, 45, 84, 121, 112, 101]
def MED16 : List UInt8 := [97, 112, 112, 108, 105, 99, 97, 116, 105, 111, 110, 47, 100, 110, 115, 45, 109, 101, 115, 115, 97, 103, 101]
def CCN16 : List UInt8 := [67, 97, 99, 104, 101, 45, 67, 111, 110, 116, 114, 111, 108]
def MAX16 : List UInt8 := [109, 97, 120, 45, 97, 103, 101, 61]
/-- P16.3: the fields of a response with a message. -/
def ansFs (age : Int) : List Fld := [(CTN16, MED16), (CCN16, MAX16 ++ decF age.toNat)]
def ansF (b : List UInt8) (age : Int) (kp : Bool) : List UInt8 × Int :=
  if b.length < 12 then ([], 4) else if 65535 < b.length then ([], 3) else if age < 0 ∨ 2147483648 ≤ age then ([], 5) else (respL ⟨200, ansFs age, b, kp⟩, respE ⟨200, ansFs age, b, kp⟩)
theorem ans_4 {b : List UInt8} {age : Int} {kp : Bool} (h : b.length < 12) : ansF b age kp = ([], 4) := by rw [ansF, if_pos h]
theorem ans_3 {b : List UInt8} {age : Int} {kp : Bool} (h : ¬ b.length < 12) (h2 : 65535 < b.length) : ansF b age kp = ([], 3) := by rw [ansF, if_neg h, if_pos h2]
theorem ans_5 {b : List UInt8} {age : Int} {kp : Bool} (h : ¬ b.length < 12) (h2 : ¬ 65535 < b.length) (h3 : age < 0 ∨ 2147483648 ≤ age) : ansF b age kp = ([], 5) := by rw [ansF, if_neg h, if_neg h2, if_pos h3]
theorem ans_ok {b : List UInt8} {age : Int} {kp : Bool} (h : ¬ b.length < 12) (h2 : ¬ 65535 < b.length) (h3 : ¬ (age < 0 ∨ 2147483648 ≤ age)) : ansF b age kp = (respL ⟨200, ansFs age, b, kp⟩, respE ⟨200, ansFs age, b, kp⟩) := by rw [ansF, if_neg h, if_neg h2, if_neg h3]

set_option maxHeartbeats 400000 in
theorem answer_ok16 {w0 : World} {base : Nat} {H : List Seg} {A : Option Addr} {C : Nat} {b : List UInt8} (h : Rd tyB w0 base H A C b) (hbl : b.length ≤ 4294967280) (age : Int) (kp : Bool) (T10 : Tab10 w0 base) :
    SCalls Tryz.prog 14 [.slice A b.length C, .int .i64 age, .bool kp] w0 base (H) (fun v H' => ∃ x : Sl tyB 5, x.l = (ansF b age kp).1 ∧ v = .tuple #[.slice x.A x.l.length x.C, int (ansF b age kp).2] ∧ H' = x.s :: H) := by
  have hle0 := h.le
  have hcap0 := h.cap
  refine SCalls.of_walk (n := 37) Tryz.func14 rfl rfl rfl fun cs => ?_
  refine At.seq ?_
  refine At.region ?_
  refine AtL.assign (.inl rfl) rfl rfl ?_
  refine AtL.assign (.inl rfl) rfl rfl ?_
  refine AtL.done ?_
  refine At.seq ?_
  refine At.block ?_
  refine At.seq ?_
  refine At.region ?_
  refine AtL.move (.inl rfl) rfl rfl ?_
  refine AtL.lenL Tryz.underlying22 (.inl rfl) rfl rfl ?_
  refine AtL.lss (.inl rfl) rfl rfl rfl ?_
  refine AtL.assign (.inl rfl) rfl rfl ?_
  refine AtL.done ?_
  refine At.cond rfl ?_ ?_
  · intro hc1
    have hc1 : (b.length : Int) < 12 := of_decide_eq_true hc1
    refine At.seq ?_
    refine At.region ?_
    refine AtL.assign (.inl rfl) rfl rfl ?_
    refine AtL.assign (.inl rfl) rfl rfl ?_
    refine AtL.done ?_
    refine At.nil ?_
    exact At.ret Tryz.func14 rfl rfl (⟨Sl.nil, by rw [ans_4 (by omega)]; rfl, by rw [ans_4 (by omega)]; rfl, rfl⟩)
  · intro hc1
    have hc1 : ¬ ((b.length : Int) < 12) := of_decide_eq_false hc1
    refine At.seq ?_
    refine At.region ?_
    refine AtL.move (.inl rfl) rfl rfl ?_
    refine AtL.lenL Tryz.underlying22 (.inl rfl) rfl rfl ?_
    refine AtL.gtr (.inl rfl) rfl rfl rfl ?_
    refine AtL.assign (.inl rfl) rfl rfl ?_
    refine AtL.done ?_
    refine At.cond rfl ?_ ?_
    · intro hc2
      have hc2 : 65535 < (b.length : Int) := of_decide_eq_true hc2
      refine At.seq ?_
      refine At.region ?_
      refine AtL.assign (.inl rfl) rfl rfl ?_
      refine AtL.assign (.inl rfl) rfl rfl ?_
      refine AtL.done ?_
      refine At.nil ?_
      exact At.ret Tryz.func14 rfl rfl (⟨Sl.nil, by rw [ans_3 (by omega) (by omega)]; rfl, by rw [ans_3 (by omega) (by omega)]; rfl, rfl⟩)
    · intro hc2
      have hc2 : ¬ (65535 < (b.length : Int)) := of_decide_eq_false hc2
      refine At.seq ?_
      refine At.region ?_
      refine AtL.move (.inl rfl) rfl rfl ?_
      refine AtL.lss (.inl rfl) rfl rfl rfl ?_
      refine AtL.move (.inl rfl) rfl rfl ?_
      refine AtL.join 3 (E' := [(23, .bool (decide (((age : Int) < 0) ∨ (2147483648 ≤ (age : Int))))), (0, .slice A b.length C), (1, .int .i64 age), (2, .bool kp)]) (H' := H) (fun J => ?_) ?_
      · refine AtL.split (t := 20) rfl ?_ ?_
        · intro hs20
          have hs20 : (age : Int) < 0 := of_decide_eq_true hs20
          refine AtL.skipped rfl rfl rfl rfl rfl rfl ?_
          refine AtL.skipped rfl rfl rfl rfl rfl rfl ?_
          refine AtL.pickT (.inl rfl) rfl rfl rfl ?_
          exact J _ (by exact ⟨(boolIs (by clear J; first | (simp [hs20]; done) | (simp_all; done) | grind)), rfl, rfl, rfl, trivial⟩)
        · intro hs20
          have hs20 : ¬ ((age : Int) < 0) := of_decide_eq_false hs20
          refine AtL.move (.inr ⟨_, _, _, rfl, rfl, rfl, rfl⟩) rfl rfl ?_
          refine AtL.geq (.inr ⟨_, _, _, rfl, rfl, rfl, rfl⟩) rfl rfl rfl ?_
          refine AtL.pickF (.inl rfl) rfl rfl rfl ?_
          exact J _ (by exact ⟨(boolIs (by clear J; first | (simp [hs20]; done) | (simp_all; done) | grind)), rfl, rfl, rfl, trivial⟩)
      · skip
        refine AtL.assign (.inl rfl) rfl rfl ?_
        refine AtL.done ?_
        refine At.cond rfl ?_ ?_
        · intro hc3
          have hc3 : ((age : Int) < 0) ∨ (2147483648 ≤ (age : Int)) := of_decide_eq_true hc3
          refine At.seq ?_
          refine At.region ?_
          refine AtL.assign (.inl rfl) rfl rfl ?_
          refine AtL.assign (.inl rfl) rfl rfl ?_
          refine AtL.done ?_
          refine At.nil ?_
          exact At.ret Tryz.func14 rfl rfl (⟨Sl.nil, by rw [ans_5 (by omega) (by omega) (by omega)]; rfl, by rw [ans_5 (by omega) (by omega) (by omega)]; rfl, rfl⟩)
        · intro hc3
          have hc3 : ¬ (((age : Int) < 0) ∨ (2147483648 ≤ (age : Int))) := of_decide_eq_false hc3
          have hdec : (decF age.toNat).length ≤ 19 := by
                      have h2 : (10 : Nat) ^ 19 = 10000000000000000000 := by decide
                      exact (decF_num age.toNat).2.2 18 (by omega)
          refine At.skip ?_
          refine At.inBlock ?_
          refine At.seq ?_
          refine At.region ?_
          refine AtL.build (cs := [str [67, 111, 110, 116, 101, 110, 116, 45, 84, 121, 112, 101], str [97, 112, 112, 108, 105, 99, 97, 116, 105, 111, 110, 47, 100, 110, 115, 45, 109, 101, 115, 115, 97, 103, 101]]) tf_lay78 (.inl rfl) rfl rfl rfl ?_
          refine AtL.move (.inl rfl) rfl rfl ?_
          refine AtL.call tf_body42 (.inl rfl) rfl rfl (itoa_any (n := age) (by omega) (by omega) T10) ?_
          rintro _ _ ⟨rfl, hHq⟩
          obtain rfl := hHq.symm
          refine AtL.cat (.inl rfl) rfl rfl rfl (by first | omega | (simp only [List.length_append, List.length_cons, List.length_nil]; omega) | (simp; omega)) ?_
          refine AtL.build (cs := [str [67, 97, 99, 104, 101, 45, 67, 111, 110, 116, 114, 111, 108], str ([109, 97, 120, 45, 97, 103, 101, 61] ++ (decF (Int.toNat age)))]) tf_lay78 (.inl rfl) rfl rfl rfl ?_
          refine AtL.buildSlice (cs := [str [67, 111, 110, 116, 101, 110, 116, 45, 84, 121, 112, 101], str [97, 112, 112, 108, 105, 99, 97, 116, 105, 111, 110, 47, 100, 110, 115, 45, 109, 101, 115, 115, 97, 103, 101], str [67, 97, 99, 104, 101, 45, 67, 111, 110, 116, 114, 111, 108], str ([109, 97, 120, 45, 97, 103, 101, 61] ++ (decF (Int.toNat age)))]) Tryz.underlying45 tf_zero78 tf_sz78 rfl rfl (.inl rfl) rfl rfl rfl ?_
          intro b1
          refine AtL.own1 tyField (l := ([(([67, 111, 110, 116, 101, 110, 116, 45, 84, 121, 112, 101] : List UInt8), ([97, 112, 112, 108, 105, 99, 97, 116, 105, 111, 110, 47, 100, 110, 115, 45, 109, 101, 115, 115, 97, 103, 101] : List UInt8)), (([67, 97, 99, 104, 101, 45, 67, 111, 110, 116, 114, 111, 108] : List UInt8), ([109, 97, 120, 45, 97, 103, 101, 61] ++ (decF (Int.toNat age)) : List UInt8))] : List (List UInt8 × List UInt8))) rfl rfl (by first | decide | simp) ?_
          intro s2 o3
          refine AtL.assign (.inl rfl) rfl rfl ?_
          refine AtL.done ?_
          refine At.seq ?_
          refine At.region ?_
          refine AtL.move (.inl rfl) rfl rfl ?_
          refine AtL.move (.inl rfl) rfl rfl ?_
          refine AtL.move (.inl rfl) rfl rfl ?_
          refine AtL.build (cs := [.int .i64 200, .slice (some ⟨b1, 0, none⟩) ([(([67, 111, 110, 116, 101, 110, 116, 45, 84, 121, 112, 101] : List UInt8), ([97, 112, 112, 108, 105, 99, 97, 116, 105, 111, 110, 47, 100, 110, 115, 45, 109, 101, 115, 115, 97, 103, 101] : List UInt8)), (([67, 97, 99, 104, 101, 45, 67, 111, 110, 116, 114, 111, 108] : List UInt8), ([109, 97, 120, 45, 97, 103, 101, 61] ++ (decF (Int.toNat age)) : List UInt8))]).length 2, .slice A b.length C, .bool kp]) tf_lay74 (.inl rfl) rfl rfl rfl ?_
          have hfb : ∀ f ∈ ansFs age, f.1.length ≤ 140737488355000 ∧ f.2.length ≤ 140737488355000 := by
            intro f hf
            rcases List.mem_cons.1 hf with rfl | hf
            · exact ⟨by decide, by decide⟩
            · obtain rfl := List.mem_singleton.1 hf
              refine ⟨(by decide : CCN16.length ≤ 140737488355000), ?_⟩
              show (MAX16 ++ decF age.toNat).length ≤ _; rw [List.length_append]; have : MAX16.length = 8 := rfl; omega
          refine AtL.call tf_body43 (.inl rfl) rfl rfl (rwrite_okP (st := 200) (fs := [(([67, 111, 110, 116, 101, 110, 116, 45, 84, 121, 112, 101] : List UInt8), ([97, 112, 112, 108, 105, 99, 97, 116, 105, 111, 110, 47, 100, 110, 115, 45, 109, 101, 115, 115, 97, 103, 101] : List UInt8)), (([67, 97, 99, 104, 101, 45, 67, 111, 110, 116, 114, 111, 108] : List UInt8), ([109, 97, 120, 45, 97, 103, 101, 61] ++ (decF (Int.toNat age)) : List UInt8))]) (b := b) (kp := kp) (o3.rd (i := 0) rfl) (Rd.skip 1 h) hfb T10) ?_
          rintro _ _ ⟨⟨A4, C5, l6, s7, o8⟩, hx9, rfl, rfl⟩
          obtain rfl : respL ⟨200, [(([67, 111, 110, 116, 101, 110, 116, 45, 84, 121, 112, 101] : List UInt8), ([97, 112, 112, 108, 105, 99, 97, 116, 105, 111, 110, 47, 100, 110, 115, 45, 109, 101, 115, 115, 97, 103, 101] : List UInt8)), (([67, 97, 99, 104, 101, 45, 67, 111, 110, 116, 114, 111, 108] : List UInt8), ([109, 97, 120, 45, 97, 103, 101, 61] ++ (decF (Int.toNat age)) : List UInt8))], b, kp⟩ = l6 := hx9.symm
          refine AtL.extract (.inl rfl) rfl rfl rfl ?_
          refine AtL.extract (.inl rfl) rfl rfl rfl ?_
          refine AtL.assign (.inl rfl) rfl rfl ?_
          refine AtL.assign (.inl rfl) rfl rfl ?_
          refine AtL.done ?_
          refine At.pick (H' := s7 :: H) [0] 2 rfl rfl ?_
          exact At.ret Tryz.func14 rfl rfl (⟨⟨A4, C5, respL ⟨200, [(([67, 111, 110, 116, 101, 110, 116, 45, 84, 121, 112, 101] : List UInt8), ([97, 112, 112, 108, 105, 99, 97, 116, 105, 111, 110, 47, 100, 110, 115, 45, 109, 101, 115, 115, 97, 103, 101] : List UInt8)), (([67, 97, 99, 104, 101, 45, 67, 111, 110, 116, 114, 111, 108] : List UInt8), ([109, 97, 120, 45, 97, 103, 101, 61] ++ (decF (Int.toNat age)) : List UInt8))], b, kp⟩, s7, o8⟩, by rw [ans_ok (by omega) (by omega) (by omega)]; rfl, by rw [ans_ok (by omega) (by omega) (by omega)]; rfl, rfl⟩)

set_option maxHeartbeats 400000 in
theorem ranswer_ok16 {w0 : World} {base : Nat} {H : List Seg} {A : Option Addr} {C : Nat} {b : List UInt8} (h : Rd tyB w0 base H A C b) (hbl : b.length ≤ 4294967280) (age : Int) (kp : Bool) (T10 : Tab10 w0 base) :
    SCalls Tryz.prog 15 [.slice A b.length C, .int .i64 age, .bool kp] w0 base (H) (fun v H' => ∃ x : Sl tyB 5, x.l = (ansF b age kp).1 ∧ v = .tuple #[.slice x.A x.l.length x.C, int (ansF b age kp).2] ∧ H' = x.s :: H) := by
  have hle0 := h.le
  have hcap0 := h.cap
  refine SCalls.of_walk (n := 34) Tryz.func15 rfl rfl rfl fun cs => ?_
  refine At.seq ?_
  refine At.region ?_
  refine AtL.assign (.inl rfl) rfl rfl ?_
  refine AtL.assign (.inl rfl) rfl rfl ?_
  refine AtL.done ?_
  refine At.seq ?_
  refine At.seq ?_
  refine At.region ?_
  refine AtL.move (.inl rfl) rfl rfl ?_
  refine AtL.lenL Tryz.underlying22 (.inl rfl) rfl rfl ?_
  refine AtL.lss (.inl rfl) rfl rfl rfl ?_
  refine AtL.done ?_
  refine At.cond rfl ?_ ?_
  · intro hc1
    have hc1 : (b.length : Int) < 12 := of_decide_eq_true hc1
    refine At.seq ?_
    refine At.region ?_
    refine AtL.assign (.inl rfl) rfl rfl ?_
    refine AtL.assign (.inl rfl) rfl rfl ?_
    refine AtL.done ?_
    refine At.nil ?_
    exact At.ret Tryz.func15 rfl rfl (⟨Sl.nil, by rw [ans_4 (by omega)]; rfl, by rw [ans_4 (by omega)]; rfl, rfl⟩)
  · intro hc1
    have hc1 : ¬ ((b.length : Int) < 12) := of_decide_eq_false hc1
    refine At.skip ?_
    refine At.seq ?_
    refine At.seq ?_
    refine At.region ?_
    refine AtL.move (.inl rfl) rfl rfl ?_
    refine AtL.lenL Tryz.underlying22 (.inl rfl) rfl rfl ?_
    refine AtL.gtr (.inl rfl) rfl rfl rfl ?_
    refine AtL.done ?_
    refine At.cond rfl ?_ ?_
    · intro hc2
      have hc2 : 65535 < (b.length : Int) := of_decide_eq_true hc2
      refine At.seq ?_
      refine At.region ?_
      refine AtL.assign (.inl rfl) rfl rfl ?_
      refine AtL.assign (.inl rfl) rfl rfl ?_
      refine AtL.done ?_
      refine At.nil ?_
      exact At.ret Tryz.func15 rfl rfl (⟨Sl.nil, by rw [ans_3 (by omega) (by omega)]; rfl, by rw [ans_3 (by omega) (by omega)]; rfl, rfl⟩)
    · intro hc2
      have hc2 : ¬ (65535 < (b.length : Int)) := of_decide_eq_false hc2
      refine At.skip ?_
      refine At.seq ?_
      refine At.seq ?_
      refine At.region ?_
      refine AtL.move (.inl rfl) rfl rfl ?_
      refine AtL.lss (.inl rfl) rfl rfl rfl ?_
      refine AtL.move (.inl rfl) rfl rfl ?_
      refine AtL.join 3 (E' := [(20, .bool (decide (((age : Int) < 0) ∨ (2147483647 < (age : Int))))), (0, .slice A b.length C), (1, .int .i64 age), (2, .bool kp)]) (H' := H) (fun J => ?_) ?_
      · refine AtL.split (t := 17) rfl ?_ ?_
        · intro hs17
          have hs17 : (age : Int) < 0 := of_decide_eq_true hs17
          refine AtL.skipped rfl rfl rfl rfl rfl rfl ?_
          refine AtL.skipped rfl rfl rfl rfl rfl rfl ?_
          refine AtL.pickT (.inl rfl) rfl rfl rfl ?_
          exact J _ (by exact ⟨(boolIs (by clear J; first | (simp [hs17]; done) | (simp_all; done) | grind)), rfl, rfl, rfl, trivial⟩)
        · intro hs17
          have hs17 : ¬ ((age : Int) < 0) := of_decide_eq_false hs17
          refine AtL.move (.inr ⟨_, _, _, rfl, rfl, rfl, rfl⟩) rfl rfl ?_
          refine AtL.gtr (.inr ⟨_, _, _, rfl, rfl, rfl, rfl⟩) rfl rfl rfl ?_
          refine AtL.pickF (.inl rfl) rfl rfl rfl ?_
          exact J _ (by exact ⟨(boolIs (by clear J; first | (simp [hs17]; done) | (simp_all; done) | grind)), rfl, rfl, rfl, trivial⟩)
      · skip
        refine AtL.done ?_
        refine At.cond rfl ?_ ?_
        · intro hc3
          have hc3 : ((age : Int) < 0) ∨ (2147483647 < (age : Int)) := of_decide_eq_true hc3
          refine At.seq ?_
          refine At.region ?_
          refine AtL.assign (.inl rfl) rfl rfl ?_
          refine AtL.assign (.inl rfl) rfl rfl ?_
          refine AtL.done ?_
          refine At.nil ?_
          exact At.ret Tryz.func15 rfl rfl (⟨Sl.nil, by rw [ans_5 (by omega) (by omega) (by omega)]; rfl, by rw [ans_5 (by omega) (by omega) (by omega)]; rfl, rfl⟩)
        · intro hc3
          have hc3 : ¬ (((age : Int) < 0) ∨ (2147483647 < (age : Int))) := of_decide_eq_false hc3
          have hdec : (decF age.toNat).length ≤ 19 := by
                      have h2 : (10 : Nat) ^ 19 = 10000000000000000000 := by decide
                      exact (decF_num age.toNat).2.2 18 (by omega)
          refine At.skip ?_
          refine At.seq ?_
          refine At.region ?_
          refine AtL.build (cs := [str [67, 111, 110, 116, 101, 110, 116, 45, 84, 121, 112, 101], str [97, 112, 112, 108, 105, 99, 97, 116, 105, 111, 110, 47, 100, 110, 115, 45, 109, 101, 115, 115, 97, 103, 101]]) tf_lay78 (.inl rfl) rfl rfl rfl ?_
          refine AtL.move (.inl rfl) rfl rfl ?_
          refine AtL.call tf_body42 (.inl rfl) rfl rfl (itoa_any (n := age) (by omega) (by omega) T10) ?_
          rintro _ _ ⟨rfl, hHq⟩
          obtain rfl := hHq.symm
          refine AtL.cat (.inl rfl) rfl rfl rfl (by first | omega | (simp only [List.length_append, List.length_cons, List.length_nil]; omega) | (simp; omega)) ?_
          refine AtL.build (cs := [str [67, 97, 99, 104, 101, 45, 67, 111, 110, 116, 114, 111, 108], str ([109, 97, 120, 45, 97, 103, 101, 61] ++ (decF (Int.toNat age)))]) tf_lay78 (.inl rfl) rfl rfl rfl ?_
          refine AtL.buildSlice (cs := [str [67, 111, 110, 116, 101, 110, 116, 45, 84, 121, 112, 101], str [97, 112, 112, 108, 105, 99, 97, 116, 105, 111, 110, 47, 100, 110, 115, 45, 109, 101, 115, 115, 97, 103, 101], str [67, 97, 99, 104, 101, 45, 67, 111, 110, 116, 114, 111, 108], str ([109, 97, 120, 45, 97, 103, 101, 61] ++ (decF (Int.toNat age)))]) Tryz.underlying45 tf_zero78 tf_sz78 rfl rfl (.inl rfl) rfl rfl rfl ?_
          intro b1
          refine AtL.own1 tyField (l := ([(([67, 111, 110, 116, 101, 110, 116, 45, 84, 121, 112, 101] : List UInt8), ([97, 112, 112, 108, 105, 99, 97, 116, 105, 111, 110, 47, 100, 110, 115, 45, 109, 101, 115, 115, 97, 103, 101] : List UInt8)), (([67, 97, 99, 104, 101, 45, 67, 111, 110, 116, 114, 111, 108] : List UInt8), ([109, 97, 120, 45, 97, 103, 101, 61] ++ (decF (Int.toNat age)) : List UInt8))] : List (List UInt8 × List UInt8))) rfl rfl (by first | decide | simp) ?_
          intro s2 o3
          refine AtL.move (.inl rfl) rfl rfl ?_
          refine AtL.move (.inl rfl) rfl rfl ?_
          refine AtL.build (cs := [.int .i64 200, .slice (some ⟨b1, 0, none⟩) ([(([67, 111, 110, 116, 101, 110, 116, 45, 84, 121, 112, 101] : List UInt8), ([97, 112, 112, 108, 105, 99, 97, 116, 105, 111, 110, 47, 100, 110, 115, 45, 109, 101, 115, 115, 97, 103, 101] : List UInt8)), (([67, 97, 99, 104, 101, 45, 67, 111, 110, 116, 114, 111, 108] : List UInt8), ([109, 97, 120, 45, 97, 103, 101, 61] ++ (decF (Int.toNat age)) : List UInt8))]).length 2, .slice A b.length C, .bool kp]) tf_lay74 (.inl rfl) rfl rfl rfl ?_
          refine AtL.alloc tf_zero74 (cs := #[.int .i64 0, .slice none 0 0, .slice none 0 0, .bool false]) rfl (.inl rfl) rfl ?_
          intro b4
          refine AtL.store (H' := [(b4, .cells #[.int .i64 200, .slice (some ⟨b1, 0, none⟩) ([(([67, 111, 110, 116, 101, 110, 116, 45, 84, 121, 112, 101] : List UInt8), ([97, 112, 112, 108, 105, 99, 97, 116, 105, 111, 110, 47, 100, 110, 115, 45, 109, 101, 115, 115, 97, 103, 101] : List UInt8)), (([67, 97, 99, 104, 101, 45, 67, 111, 110, 116, 114, 111, 108] : List UInt8), ([109, 97, 120, 45, 97, 103, 101, 61] ++ (decF (Int.toNat age)) : List UInt8))]).length 2, .slice A b.length C, .bool kp] 74 (0, 0))] :: s2 :: H) 0 0 tf_sz74 (.inl rfl) rfl rfl rfl rfl rfl rfl rfl rfl rfl ?_
          refine AtL.done ?_
          refine At.seq ?_
          refine At.region ?_
          refine AtL.loadN (cs := [.int .i64 200, .slice (some ⟨b1, 0, none⟩) ([(([67, 111, 110, 116, 101, 110, 116, 45, 84, 121, 112, 101] : List UInt8), ([97, 112, 112, 108, 105, 99, 97, 116, 105, 111, 110, 47, 100, 110, 115, 45, 109, 101, 115, 115, 97, 103, 101] : List UInt8)), (([67, 97, 99, 104, 101, 45, 67, 111, 110, 116, 114, 111, 108] : List UInt8), ([109, 97, 120, 45, 97, 103, 101, 61] ++ (decF (Int.toNat age)) : List UInt8))]).length 2, .slice A b.length C, .bool kp]) tf_agg74 (.inl rfl) rfl rfl rfl (cellsOwn 0 0 0 rfl rfl rfl) ?_
          have hfb : ∀ f ∈ ansFs age, f.1.length ≤ 140737488355000 ∧ f.2.length ≤ 140737488355000 := by
            intro f hf
            rcases List.mem_cons.1 hf with rfl | hf
            · exact ⟨by decide, by decide⟩
            · obtain rfl := List.mem_singleton.1 hf
              refine ⟨(by decide : CCN16.length ≤ 140737488355000), ?_⟩
              show (MAX16 ++ decF age.toNat).length ≤ _; rw [List.length_append]; have : MAX16.length = 8 := rfl; omega
          refine AtL.call tf_body44 (.inl rfl) rfl rfl (rrwrite_okP (st := 200) (fs := [(([67, 111, 110, 116, 101, 110, 116, 45, 84, 121, 112, 101] : List UInt8), ([97, 112, 112, 108, 105, 99, 97, 116, 105, 111, 110, 47, 100, 110, 115, 45, 109, 101, 115, 115, 97, 103, 101] : List UInt8)), (([67, 97, 99, 104, 101, 45, 67, 111, 110, 116, 114, 111, 108] : List UInt8), ([109, 97, 120, 45, 97, 103, 101, 61] ++ (decF (Int.toNat age)) : List UInt8))]) (b := b) (kp := kp) (o3.rd (i := 1) rfl) (Rd.skip 2 h) hfb T10) ?_
          rintro _ _ ⟨⟨A5, C6, l7, s8, o9⟩, hx10, rfl, rfl⟩
          obtain rfl : respL ⟨200, [(([67, 111, 110, 116, 101, 110, 116, 45, 84, 121, 112, 101] : List UInt8), ([97, 112, 112, 108, 105, 99, 97, 116, 105, 111, 110, 47, 100, 110, 115, 45, 109, 101, 115, 115, 97, 103, 101] : List UInt8)), (([67, 97, 99, 104, 101, 45, 67, 111, 110, 116, 114, 111, 108] : List UInt8), ([109, 97, 120, 45, 97, 103, 101, 61] ++ (decF (Int.toNat age)) : List UInt8))], b, kp⟩ = l7 := hx10.symm
          refine AtL.extract (.inl rfl) rfl rfl rfl ?_
          refine AtL.extract (.inl rfl) rfl rfl rfl ?_
          refine AtL.assign (.inl rfl) rfl rfl ?_
          refine AtL.assign (.inl rfl) rfl rfl ?_
          refine AtL.done ?_
          refine At.pick (H' := s8 :: H) [0] 3 rfl rfl ?_
          exact At.ret Tryz.func15 rfl rfl (⟨⟨A5, C6, respL ⟨200, [(([67, 111, 110, 116, 101, 110, 116, 45, 84, 121, 112, 101] : List UInt8), ([97, 112, 112, 108, 105, 99, 97, 116, 105, 111, 110, 47, 100, 110, 115, 45, 109, 101, 115, 115, 97, 103, 101] : List UInt8)), (([67, 97, 99, 104, 101, 45, 67, 111, 110, 116, 114, 111, 108] : List UInt8), ([109, 97, 120, 45, 97, 103, 101, 61] ++ (decF (Int.toNat age)) : List UInt8))], b, kp⟩, s8, o9⟩, by rw [ans_ok (by omega) (by omega) (by omega)]; rfl, by rw [ans_ok (by omega) (by omega) (by omega)]; rfl, rfl⟩)

end Go.Proofs.YtlkdmbpbjhjkfaaGreatDoor
