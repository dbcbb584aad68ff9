/- Bytes as letters: the answer writes. -/
import Derived.Test.YtlkdmbpbjhjkfaaGreatDoorE4
namespace Go.Proofs.YtlkdmbpbjhjkfaaGreatDoor
set_option linter.unusedVariables false
set_option linter.unusedSimpArgs false
set_option maxRecDepth 100000

/-- The i-th bit of bytes; 0 behind them. -/
def bitAt (b : List UInt8) (i : Nat) : Nat := (b.getD (i / 8) 0).toNat / 2 ^ (7 - i % 8) % 2
theorem bitAt_lt (b : List UInt8) (i : Nat) : bitAt b i < 2 := Nat.mod_lt _ (by decide)
theorem bitAt_out {b : List UInt8} {i : Nat} (h : b.length ≤ i / 8) : bitAt b i = 0 := by
  have : b.getD (i / 8) 0 = 0 := by simp [List.getD, List.getElem?_eq_none h]
  rw [bitAt, this]; simp
theorem bits8_at : ∀ (b : List UInt8) (i : Nat), ((bits8 b).getD i false).toNat = bitAt b i
  | [], i => by simp [bits8, bitAt]
  | c :: l, i => by
    have e : bits8 (c :: l) = b8 c ++ bits8 l := rfl
    rw [e]
    by_cases h : i < 8
    · have e2 : (b8 c ++ bits8 l).getD i false = (b8 c).getD i false := by simp [List.getD, List.getElem?_append_left (show i < (b8 c).length by rw [b8_len]; exact h)]
      have e3 : (c :: l).getD (i / 8) 0 = c := by rw [Nat.div_eq_of_lt h]; rfl
      have e4 : (b8 c).getD i false = c.toNat.testBit (7 - i) := by
        match i, h with
        | 0, _ => rfl
        | 1, _ => rfl
        | 2, _ => rfl
        | 3, _ => rfl
        | 4, _ => rfl
        | 5, _ => rfl
        | 6, _ => rfl
        | 7, _ => rfl
      rw [e2, e4, bitAt, e3, Nat.mod_eq_of_lt h, Nat.testBit_eq_decide_div_mod_eq]
      rcases Nat.mod_two_eq_zero_or_one (c.toNat / 2 ^ (7 - i)) with h2 | h2 <;> rw [h2] <;> rfl
    · have e2 : (b8 c ++ bits8 l).getD i false = (bits8 l).getD (i - 8) false := by simp [List.getD, List.getElem?_append_right (show (b8 c).length ≤ i by rw [b8_len]; omega), b8_len]
      have e3 : (c :: l).getD (i / 8) 0 = l.getD ((i - 8) / 8) 0 := by
        obtain ⟨k, rfl⟩ : ∃ k, i = k + 8 := ⟨i - 8, by omega⟩
        rw [show (k + 8) / 8 = k / 8 + 1 by omega, show k + 8 - 8 = k by omega]; rfl
      rw [e2, bits8_at l (i - 8), bitAt, bitAt, e3, show (i - 8) % 8 = i % 8 by omega]
theorem pad_at (b : List UInt8) (i : Nat) : ((bits8 b ++ List.replicate 6 false).getD i false).toNat = bitAt b i := by
  rw [← bits8_at]
  by_cases h : i < (bits8 b).length
  · simp [List.getD, List.getElem?_append_left h]
  · have h1 : (bits8 b).getD i false = false := by simp [List.getD, List.getElem?_eq_none (by omega : (bits8 b).length ≤ i)]
    rw [h1]
    simp only [List.getD, List.getElem?_append_right (by omega : (bits8 b).length ≤ i), List.getElem?_replicate]
    split <;> rfl
theorem six_at (L : List Bool) (i : Nat) (h : i + 6 ≤ L.length) : (L.drop i).take 6 = [L.getD i false, L.getD (i + 1) false, L.getD (i + 2) false, L.getD (i + 3) false, L.getD (i + 4) false, L.getD (i + 5) false] := by
  have e : ∀ j, j < L.length → L.drop j = L.getD j false :: L.drop (j + 1) := fun j hj => by
    rw [List.drop_eq_getElem_cons hj]; simp [List.getD, hj]
  rw [e i (by omega), e (i + 1) (by omega), e (i + 2) (by omega), e (i + 3) (by omega), e (i + 4) (by omega), e (i + 5) (by omega)]
  rfl
theorem bv_six (b : List UInt8) (i : Nat) (h : i < 8 * b.length) : bv (((bits8 b ++ List.replicate 6 false).drop i).take 6) = 2 * (2 * (2 * (2 * (2 * bitAt b i + bitAt b (i + 1)) + bitAt b (i + 2)) + bitAt b (i + 3)) + bitAt b (i + 4)) + bitAt b (i + 5) := by
  rw [six_at _ _ (by rw [List.length_append, bits8_len, List.length_replicate]; omega)]
  simp only [← pad_at, bv, List.foldl_cons, List.foldl_nil]
  omega
/-- The first j letters. -/
def encTo (b : List UInt8) (j : Nat) : List UInt8 := (List.range j).map fun j => letB.getD (bv (((bits8 b ++ List.replicate 6 false).drop (6 * j)).take 6)) 0
theorem encTo_len (b : List UInt8) (j : Nat) : (encTo b j).length = j := by simp [encTo]
theorem encTo_snoc (b : List UInt8) (j n : Nat) (h : 6 * j < 8 * b.length) (hn : n = 2 * (2 * (2 * (2 * (2 * bitAt b (6 * j + 0) + bitAt b (6 * j + 1)) + bitAt b (6 * j + 2)) + bitAt b (6 * j + 3)) + bitAt b (6 * j + 4)) + bitAt b (6 * j + 5)) : encTo b j ++ [letB.getD n 0] = encTo b (j + 1) := by
  have e : n = bv (((bits8 b ++ List.replicate 6 false).drop (6 * j)).take 6) := hn.trans (bv_six b (6 * j) h).symm
  rw [encTo, encTo, List.range_succ, List.map_append, e]; rfl
theorem encTo_all {b : List UInt8} {j : Nat} (h : ¬ 6 * j < 8 * b.length) (h2 : 6 * j ≤ 8 * b.length + 5) : encTo b j = encB b := by
  have : j = (8 * b.length + 5) / 6 := by omega
  rw [encTo, encB, this]

set_option maxHeartbeats 400000 in
theorem rbit_ok {w0 : World} {base : Nat} {H : List Seg} {A : Option Addr} {C : Nat} {b : List UInt8} (h : Rd tyB w0 base H A C b) (i : Nat) (hi : i ≤ 4611686018427387904) :
    SCalls Tryz.prog 73 [.slice A b.length C, .int .i64 (i : Int)] w0 base (H) (fun v H' => v = int ((bitAt b i : Nat) : Int) ∧ H' = H) := by
  have hle0 := h.le
  have hcap0 := h.cap
  refine SCalls.of_walk (n := 21) Tryz.func73 rfl rfl rfl fun cs => ?_
  refine At.seq ?_
  refine At.region ?_
  refine AtL.assign (.inl rfl) rfl rfl ?_
  refine AtL.done ?_
  refine At.seq ?_
  refine At.seq ?_
  refine At.region ?_
  refine AtL.move (.inl rfl) rfl rfl ?_
  refine AtL.quo (z := (i : Int) / 8) (.inl rfl) rfl rfl rfl (by omega) (quo_eq (by omega) (by omega) (by omega)) ?_
  refine AtL.move (.inl rfl) rfl rfl ?_
  refine AtL.lenL Tryz.underlying22 (.inl rfl) rfl rfl ?_
  refine AtL.geq (.inl rfl) rfl rfl rfl ?_
  refine AtL.done ?_
  refine At.cond rfl ?_ ?_
  · intro hc1
    have hc1 : (b.length : Int) ≤ ((i : Int) / 8) := of_decide_eq_true hc1
    refine At.seq ?_
    refine At.region ?_
    refine AtL.assign (.inl rfl) rfl rfl ?_
    refine AtL.done ?_
    exact At.ret Tryz.func73 rfl rfl (⟨by rw [bitAt_out (by omega)]; rfl, rfl⟩)
  · intro hc1
    have hc1 : ¬ ((b.length : Int) ≤ ((i : Int) / 8)) := of_decide_eq_false hc1
    refine At.skip ?_
    refine At.seq ?_
    refine At.region ?_
    refine AtL.move (.inl rfl) rfl rfl ?_
    refine AtL.move (.inl rfl) rfl rfl ?_
    refine AtL.quo (z := (i : Int) / 8) (.inl rfl) rfl rfl rfl (by omega) (quo_eq (by omega) (by omega) (by omega)) ?_
    refine AtL.indexL (i / 8) h Tryz.underlying22 tf_sz5 (.inl rfl) rfl rfl rfl rfl (by omega) ?_
    refine AtL.load (v := .int .u8 ((b.getD (i / 8) 0).toNat : Int)) tf_flat5 (.inl rfl) rfl rfl (Rd.cell0 h (getD_some 0 (by omega)) rfl) ?_
    have hB1 := u8_le ((b.getD (i / 8) 0))
    refine AtL.convInt (z := ((b.getD (i / 8) 0).toNat : Int)) Tryz.underlying5 Tryz.underlying3 (.inl rfl) rfl rfl (u8_i64 _) ?_
    refine AtL.move (.inl rfl) rfl rfl ?_
    refine AtL.rem (z := (i : Int) % 8) (.inl rfl) rfl rfl rfl (by omega) (rem_eq (by omega)) ?_
    refine AtL.sub (z := ((7 - i % 8 : Nat) : Int)) (.inl rfl) rfl rfl rfl (by rw [show (7 : Int) - (i : Int) % 8 = ((7 - i % 8 : Nat) : Int) by omega]; exact w64 (by omega) (by omega)) ?_
    refine AtL.shr (z := (((b.getD (i / 8) 0).toNat / 2 ^ (7 - i % 8) : Nat) : Int)) (.inl rfl) rfl rfl rfl (by omega) (shrN (by omega)) ?_
    refine AtL.rem (z := ((bitAt b i : Nat) : Int)) (.inl rfl) rfl rfl rfl (by omega) (by rw [bitAt, Int.natCast_emod]; exact rem_eq (Int.natCast_nonneg _)) ?_
    refine AtL.assign (.inl rfl) rfl rfl ?_
    refine AtL.done ?_
    exact At.ret Tryz.func73 rfl rfl (⟨rfl, rfl⟩)

set_option maxHeartbeats 400000 in
theorem rletters_ok {w0 : World} {base : Nat} {H : List Seg}  :
    SCalls Tryz.prog 72 [] w0 base (H) (fun v H' => v = str letB ∧ H' = H) := by
  refine SCalls.of_walk (n := 1) Tryz.func72 rfl rfl rfl fun cs => ?_
  refine At.seq ?_
  refine At.region ?_
  refine AtL.assign (.inl rfl) rfl rfl ?_
  refine AtL.done ?_
  refine At.seq ?_
  refine At.region ?_
  refine AtL.assign (.inl rfl) rfl rfl ?_
  refine AtL.done ?_
  exact At.ret Tryz.func72 rfl rfl (⟨rfl, rfl⟩)

set_option maxHeartbeats 400000 in
theorem renc_ok {w0 : World} {base : Nat} {H : List Seg} {A : Option Addr} {C : Nat} {b : List UInt8} (h : Rd tyB w0 base H A C b) (hb : b.length ≤ 70368744177664) :
    SCalls Tryz.prog 46 [.slice A b.length C] w0 base (H) (fun v H' => v = str (encB b) ∧ H' = H) := by
  have hle0 := h.le
  have hcap0 := h.cap
  have hll := letB_len
  refine SCalls.of_walk (n := 36) Tryz.func46 rfl rfl rfl fun cs => ?_
  refine At.seq ?_
  refine At.region ?_
  refine AtL.assign (.inl rfl) rfl rfl ?_
  refine AtL.done ?_
  refine At.seq ?_
  refine At.region ?_
  refine AtL.call tf_body72 (.inl rfl) rfl rfl rletters_ok ?_
  rintro _ _ ⟨rfl, hHq⟩
  obtain rfl := hHq.symm
  refine AtL.assign (.inl rfl) rfl rfl ?_
  refine AtL.done ?_
  refine At.seq ?_
  refine At.region ?_
  refine AtL.assign (.inl rfl) rfl rfl ?_
  refine AtL.done ?_
  refine At.seq ?_
  refine At.seq ?_
  refine At.region ?_
  refine AtL.assign (.inl rfl) rfl rfl ?_
  refine AtL.done ?_
  refine At.block ?_
  refine At.nil ?_
  refine At.loop2 (fun (j : Nat) (y : Sl tyB 5) => [(0, .slice A b.length C), (3, str letB), (4, .slice y.A y.l.length y.C), (5, .int .i64 ((6 * j : Nat) : Int))]) (fun (j : Nat) (y : Sl tyB 5) => y.s :: H) (fun (j : Nat) (y : Sl tyB 5) => 6 * j ≤ 8 * b.length + 5 ∧ y.l = encTo b j) (fun (j : Nat) (y : Sl tyB 5) => 8 * b.length + 6 - 6 * j) 0 Sl.nil (⟨Nat.zero_le _, rfl⟩) ⟨rfl, rfl, rfl, rfl, trivial⟩ rfl ?_
  rintro j y ⟨hj, hy⟩ ihL1
  have hyl : y.l.length = j := by rw [hy, encTo_len]
  have hcapy := Own.cap_le y.own
  refine At.seq ?_
  refine At.seq ?_
  refine At.region ?_
  refine AtL.move (.inl rfl) rfl rfl ?_
  refine AtL.move (.inl rfl) rfl rfl ?_
  refine AtL.lenL Tryz.underlying22 (.inl rfl) rfl rfl ?_
  refine AtL.mul (z := 8 * (b.length : Int)) (.inl rfl) rfl rfl rfl (w64 (by omega) (by omega)) ?_
  refine AtL.lss (.inl rfl) rfl rfl rfl ?_
  refine AtL.done ?_
  refine At.cond rfl ?_ ?_
  · intro hc1
    have hc1 : ((6 * j : Nat) : Int) < (8 * (b.length : Int)) := of_decide_eq_true hc1
    refine At.skip ?_
    refine At.seq ?_
    refine At.block ?_
    refine At.seq ?_
    refine At.region ?_
    refine AtL.assign (.inl rfl) rfl rfl ?_
    refine AtL.done ?_
    refine At.seq ?_
    refine At.seq ?_
    refine At.region ?_
    refine AtL.assign (.inl rfl) rfl rfl ?_
    refine AtL.done ?_
    refine At.block ?_
    refine At.unroll ?_
    refine At.seq ?_
    refine At.seq ?_
    refine At.region ?_
    refine AtL.move (.inl rfl) rfl rfl ?_
    refine AtL.lss (.inl rfl) rfl rfl rfl ?_
    refine AtL.done ?_
    refine At.condT rfl ?_
    refine At.skip ?_
    refine At.seq ?_
    refine At.block ?_
    refine At.region ?_
    refine AtL.move (.inl rfl) rfl rfl ?_
    refine AtL.mul (z := 0) (.inl rfl) rfl rfl rfl (by decide) ?_
    refine AtL.move (.inl rfl) rfl rfl ?_
    refine AtL.move (.inl rfl) rfl rfl ?_
    refine AtL.move (.inl rfl) rfl rfl ?_
    refine AtL.add (z := ((6 * j : Nat) : Int) + 0) (.inl rfl) rfl rfl rfl (w64 (by omega) (by omega)) ?_
    refine AtL.call tf_body73 (.inl rfl) rfl rfl (rbit_ok (Rd.skip 1 h) ((6 * j : Nat) + 0) (by omega)) ?_
    rintro _ _ ⟨rfl, rfl⟩
    have hb1 := bitAt_lt b ((6 * j : Nat) + 0)
    refine AtL.add (z := 0 + ((bitAt b ((6 * j : Nat) + 0) : Nat) : Int)) (.inl rfl) rfl rfl rfl (w64 (by omega) (by omega)) ?_
    refine AtL.assign (.inl rfl) rfl rfl ?_
    refine AtL.done ?_
    refine At.inBlock ?_
    refine At.region ?_
    refine AtL.move (.inl rfl) rfl rfl ?_
    refine AtL.add (z := 1) (.inl rfl) rfl rfl rfl (by decide) ?_
    refine AtL.assign (.inl rfl) rfl rfl ?_
    refine AtL.done ?_
    refine At.again ?_
    refine At.seq ?_
    refine At.seq ?_
    refine At.region ?_
    refine AtL.move (.inl rfl) rfl rfl ?_
    refine AtL.lss (.inl rfl) rfl rfl rfl ?_
    refine AtL.done ?_
    refine At.condT rfl ?_
    refine At.skip ?_
    refine At.seq ?_
    refine At.block ?_
    refine At.region ?_
    refine AtL.move (.inl rfl) rfl rfl ?_
    refine AtL.mul (z := 2 * (0 + ((bitAt b ((6 * j : Nat) + 0) : Nat) : Int))) (.inl rfl) rfl rfl rfl (w64 (by omega) (by omega)) ?_
    refine AtL.move (.inl rfl) rfl rfl ?_
    refine AtL.move (.inl rfl) rfl rfl ?_
    refine AtL.move (.inl rfl) rfl rfl ?_
    refine AtL.add (z := ((6 * j : Nat) : Int) + 1) (.inl rfl) rfl rfl rfl (w64 (by omega) (by omega)) ?_
    refine AtL.call tf_body73 (.inl rfl) rfl rfl (rbit_ok (Rd.skip 1 h) ((6 * j : Nat) + 1) (by omega)) ?_
    rintro _ _ ⟨rfl, rfl⟩
    have hb2 := bitAt_lt b ((6 * j : Nat) + 1)
    refine AtL.add (z := (2 * (0 + ((bitAt b ((6 * j : Nat) + 0) : Nat) : Int))) + ((bitAt b ((6 * j : Nat) + 1) : Nat) : Int)) (.inl rfl) rfl rfl rfl (w64 (by omega) (by omega)) ?_
    refine AtL.assign (.inl rfl) rfl rfl ?_
    refine AtL.done ?_
    refine At.inBlock ?_
    refine At.region ?_
    refine AtL.move (.inl rfl) rfl rfl ?_
    refine AtL.add (z := 2) (.inl rfl) rfl rfl rfl (by decide) ?_
    refine AtL.assign (.inl rfl) rfl rfl ?_
    refine AtL.done ?_
    refine At.again ?_
    refine At.seq ?_
    refine At.seq ?_
    refine At.region ?_
    refine AtL.move (.inl rfl) rfl rfl ?_
    refine AtL.lss (.inl rfl) rfl rfl rfl ?_
    refine AtL.done ?_
    refine At.condT rfl ?_
    refine At.skip ?_
    refine At.seq ?_
    refine At.block ?_
    refine At.region ?_
    refine AtL.move (.inl rfl) rfl rfl ?_
    refine AtL.mul (z := 2 * ((2 * (0 + ((bitAt b ((6 * j : Nat) + 0) : Nat) : Int))) + ((bitAt b ((6 * j : Nat) + 1) : Nat) : Int))) (.inl rfl) rfl rfl rfl (w64 (by omega) (by omega)) ?_
    refine AtL.move (.inl rfl) rfl rfl ?_
    refine AtL.move (.inl rfl) rfl rfl ?_
    refine AtL.move (.inl rfl) rfl rfl ?_
    refine AtL.add (z := ((6 * j : Nat) : Int) + 2) (.inl rfl) rfl rfl rfl (w64 (by omega) (by omega)) ?_
    refine AtL.call tf_body73 (.inl rfl) rfl rfl (rbit_ok (Rd.skip 1 h) ((6 * j : Nat) + 2) (by omega)) ?_
    rintro _ _ ⟨rfl, rfl⟩
    have hb3 := bitAt_lt b ((6 * j : Nat) + 2)
    refine AtL.add (z := (2 * ((2 * (0 + ((bitAt b ((6 * j : Nat) + 0) : Nat) : Int))) + ((bitAt b ((6 * j : Nat) + 1) : Nat) : Int))) + ((bitAt b ((6 * j : Nat) + 2) : Nat) : Int)) (.inl rfl) rfl rfl rfl (w64 (by omega) (by omega)) ?_
    refine AtL.assign (.inl rfl) rfl rfl ?_
    refine AtL.done ?_
    refine At.inBlock ?_
    refine At.region ?_
    refine AtL.move (.inl rfl) rfl rfl ?_
    refine AtL.add (z := 3) (.inl rfl) rfl rfl rfl (by decide) ?_
    refine AtL.assign (.inl rfl) rfl rfl ?_
    refine AtL.done ?_
    refine At.again ?_
    refine At.seq ?_
    refine At.seq ?_
    refine At.region ?_
    refine AtL.move (.inl rfl) rfl rfl ?_
    refine AtL.lss (.inl rfl) rfl rfl rfl ?_
    refine AtL.done ?_
    refine At.condT rfl ?_
    refine At.skip ?_
    refine At.seq ?_
    refine At.block ?_
    refine At.region ?_
    refine AtL.move (.inl rfl) rfl rfl ?_
    refine AtL.mul (z := 2 * ((2 * ((2 * (0 + ((bitAt b ((6 * j : Nat) + 0) : Nat) : Int))) + ((bitAt b ((6 * j : Nat) + 1) : Nat) : Int))) + ((bitAt b ((6 * j : Nat) + 2) : Nat) : Int))) (.inl rfl) rfl rfl rfl (w64 (by omega) (by omega)) ?_
    refine AtL.move (.inl rfl) rfl rfl ?_
    refine AtL.move (.inl rfl) rfl rfl ?_
    refine AtL.move (.inl rfl) rfl rfl ?_
    refine AtL.add (z := ((6 * j : Nat) : Int) + 3) (.inl rfl) rfl rfl rfl (w64 (by omega) (by omega)) ?_
    refine AtL.call tf_body73 (.inl rfl) rfl rfl (rbit_ok (Rd.skip 1 h) ((6 * j : Nat) + 3) (by omega)) ?_
    rintro _ _ ⟨rfl, rfl⟩
    have hb4 := bitAt_lt b ((6 * j : Nat) + 3)
    refine AtL.add (z := (2 * ((2 * ((2 * (0 + ((bitAt b ((6 * j : Nat) + 0) : Nat) : Int))) + ((bitAt b ((6 * j : Nat) + 1) : Nat) : Int))) + ((bitAt b ((6 * j : Nat) + 2) : Nat) : Int))) + ((bitAt b ((6 * j : Nat) + 3) : Nat) : Int)) (.inl rfl) rfl rfl rfl (w64 (by omega) (by omega)) ?_
    refine AtL.assign (.inl rfl) rfl rfl ?_
    refine AtL.done ?_
    refine At.inBlock ?_
    refine At.region ?_
    refine AtL.move (.inl rfl) rfl rfl ?_
    refine AtL.add (z := 4) (.inl rfl) rfl rfl rfl (by decide) ?_
    refine AtL.assign (.inl rfl) rfl rfl ?_
    refine AtL.done ?_
    refine At.again ?_
    refine At.seq ?_
    refine At.seq ?_
    refine At.region ?_
    refine AtL.move (.inl rfl) rfl rfl ?_
    refine AtL.lss (.inl rfl) rfl rfl rfl ?_
    refine AtL.done ?_
    refine At.condT rfl ?_
    refine At.skip ?_
    refine At.seq ?_
    refine At.block ?_
    refine At.region ?_
    refine AtL.move (.inl rfl) rfl rfl ?_
    refine AtL.mul (z := 2 * ((2 * ((2 * ((2 * (0 + ((bitAt b ((6 * j : Nat) + 0) : Nat) : Int))) + ((bitAt b ((6 * j : Nat) + 1) : Nat) : Int))) + ((bitAt b ((6 * j : Nat) + 2) : Nat) : Int))) + ((bitAt b ((6 * j : Nat) + 3) : Nat) : Int))) (.inl rfl) rfl rfl rfl (w64 (by omega) (by omega)) ?_
    refine AtL.move (.inl rfl) rfl rfl ?_
    refine AtL.move (.inl rfl) rfl rfl ?_
    refine AtL.move (.inl rfl) rfl rfl ?_
    refine AtL.add (z := ((6 * j : Nat) : Int) + 4) (.inl rfl) rfl rfl rfl (w64 (by omega) (by omega)) ?_
    refine AtL.call tf_body73 (.inl rfl) rfl rfl (rbit_ok (Rd.skip 1 h) ((6 * j : Nat) + 4) (by omega)) ?_
    rintro _ _ ⟨rfl, rfl⟩
    have hb5 := bitAt_lt b ((6 * j : Nat) + 4)
    refine AtL.add (z := (2 * ((2 * ((2 * ((2 * (0 + ((bitAt b ((6 * j : Nat) + 0) : Nat) : Int))) + ((bitAt b ((6 * j : Nat) + 1) : Nat) : Int))) + ((bitAt b ((6 * j : Nat) + 2) : Nat) : Int))) + ((bitAt b ((6 * j : Nat) + 3) : Nat) : Int))) + ((bitAt b ((6 * j : Nat) + 4) : Nat) : Int)) (.inl rfl) rfl rfl rfl (w64 (by omega) (by omega)) ?_
    refine AtL.assign (.inl rfl) rfl rfl ?_
    refine AtL.done ?_
    refine At.inBlock ?_
    refine At.region ?_
    refine AtL.move (.inl rfl) rfl rfl ?_
    refine AtL.add (z := 5) (.inl rfl) rfl rfl rfl (by decide) ?_
    refine AtL.assign (.inl rfl) rfl rfl ?_
    refine AtL.done ?_
    refine At.again ?_
    refine At.seq ?_
    refine At.seq ?_
    refine At.region ?_
    refine AtL.move (.inl rfl) rfl rfl ?_
    refine AtL.lss (.inl rfl) rfl rfl rfl ?_
    refine AtL.done ?_
    refine At.condT rfl ?_
    refine At.skip ?_
    refine At.seq ?_
    refine At.block ?_
    refine At.region ?_
    refine AtL.move (.inl rfl) rfl rfl ?_
    refine AtL.mul (z := 2 * ((2 * ((2 * ((2 * ((2 * (0 + ((bitAt b ((6 * j : Nat) + 0) : Nat) : Int))) + ((bitAt b ((6 * j : Nat) + 1) : Nat) : Int))) + ((bitAt b ((6 * j : Nat) + 2) : Nat) : Int))) + ((bitAt b ((6 * j : Nat) + 3) : Nat) : Int))) + ((bitAt b ((6 * j : Nat) + 4) : Nat) : Int))) (.inl rfl) rfl rfl rfl (w64 (by omega) (by omega)) ?_
    refine AtL.move (.inl rfl) rfl rfl ?_
    refine AtL.move (.inl rfl) rfl rfl ?_
    refine AtL.move (.inl rfl) rfl rfl ?_
    refine AtL.add (z := ((6 * j : Nat) : Int) + 5) (.inl rfl) rfl rfl rfl (w64 (by omega) (by omega)) ?_
    refine AtL.call tf_body73 (.inl rfl) rfl rfl (rbit_ok (Rd.skip 1 h) ((6 * j : Nat) + 5) (by omega)) ?_
    rintro _ _ ⟨rfl, rfl⟩
    have hb6 := bitAt_lt b ((6 * j : Nat) + 5)
    refine AtL.add (z := (2 * ((2 * ((2 * ((2 * ((2 * (0 + ((bitAt b ((6 * j : Nat) + 0) : Nat) : Int))) + ((bitAt b ((6 * j : Nat) + 1) : Nat) : Int))) + ((bitAt b ((6 * j : Nat) + 2) : Nat) : Int))) + ((bitAt b ((6 * j : Nat) + 3) : Nat) : Int))) + ((bitAt b ((6 * j : Nat) + 4) : Nat) : Int))) + ((bitAt b ((6 * j : Nat) + 5) : Nat) : Int)) (.inl rfl) rfl rfl rfl (w64 (by omega) (by omega)) ?_
    refine AtL.assign (.inl rfl) rfl rfl ?_
    refine AtL.done ?_
    refine At.inBlock ?_
    refine At.region ?_
    refine AtL.move (.inl rfl) rfl rfl ?_
    refine AtL.add (z := 6) (.inl rfl) rfl rfl rfl (by decide) ?_
    refine AtL.assign (.inl rfl) rfl rfl ?_
    refine AtL.done ?_
    refine At.again ?_
    refine At.seq ?_
    refine At.seq ?_
    refine At.region ?_
    refine AtL.move (.inl rfl) rfl rfl ?_
    refine AtL.lss (.inl rfl) rfl rfl rfl ?_
    refine AtL.done ?_
    refine At.condF rfl ?_
    refine At.exit rfl ?_
    refine At.region ?_
    refine AtL.move (.inl rfl) rfl rfl ?_
    refine AtL.move (.inl rfl) rfl rfl ?_
    refine AtL.move (.inl rfl) rfl rfl ?_
    refine AtL.indexS (l := letB) ((2 * ((2 * ((2 * ((2 * ((2 * (0 + (bitAt b ((6 * j : Nat) + 0) : Nat))) + (bitAt b ((6 * j : Nat) + 1) : Nat))) + (bitAt b ((6 * j : Nat) + 2) : Nat))) + (bitAt b ((6 * j : Nat) + 3) : Nat))) + (bitAt b ((6 * j : Nat) + 4) : Nat))) + (bitAt b ((6 * j : Nat) + 5) : Nat)) rfl (by omega) Tryz.underlying9 (.inl rfl) rfl rfl rfl ?_
    refine AtL.buildSlice (cs := [.int .u8 ((letB.getD ((2 * ((2 * ((2 * ((2 * ((2 * (0 + (bitAt b ((6 * j : Nat) + 0) : Nat))) + (bitAt b ((6 * j : Nat) + 1) : Nat))) + (bitAt b ((6 * j : Nat) + 2) : Nat))) + (bitAt b ((6 * j : Nat) + 3) : Nat))) + (bitAt b ((6 * j : Nat) + 4) : Nat))) + (bitAt b ((6 * j : Nat) + 5) : Nat)) 0).toNat : Int)]) Tryz.underlying22 tf_zero5 tf_sz5 rfl rfl (.inl rfl) rfl rfl rfl ?_
    intro b7
    refine AtL.own1 tyB (l := ([letB.getD ((2 * ((2 * ((2 * ((2 * ((2 * (0 + (bitAt b ((6 * j : Nat) + 0) : Nat))) + (bitAt b ((6 * j : Nat) + 1) : Nat))) + (bitAt b ((6 * j : Nat) + 2) : Nat))) + (bitAt b ((6 * j : Nat) + 3) : Nat))) + (bitAt b ((6 * j : Nat) + 4) : Nat))) + (bitAt b ((6 * j : Nat) + 5) : Nat)) 0] : List UInt8)) rfl rfl (by first | decide | simp) ?_
    intro s8 o9
    refine AtL.append (l := y.l) (news := [letB.getD ((2 * ((2 * ((2 * ((2 * ((2 * (0 + (bitAt b ((6 * j : Nat) + 0) : Nat))) + (bitAt b ((6 * j : Nat) + 1) : Nat))) + (bitAt b ((6 * j : Nat) + 2) : Nat))) + (bitAt b ((6 * j : Nat) + 3) : Nat))) + (bitAt b ((6 * j : Nat) + 4) : Nat))) + (bitAt b ((6 * j : Nat) + 5) : Nat)) 0]) 1 tf_el22 rfl y.own (o9.rd (i := 0) rfl) (by first | omega | (simp only [List.length_append, List.length_cons, List.length_nil]; omega) | (simp; done) | (simp; omega)) (.inl rfl) rfl rfl rfl ?_
    intro A10 C11 s12 o13
    refine AtL.assign (.inl rfl) rfl rfl ?_
    refine AtL.done ?_
    refine At.inBlock ?_
    refine At.region ?_
    refine AtL.move (.inl rfl) rfl rfl ?_
    refine AtL.add (z := ((6 * j : Nat) : Int) + 6) (.inl rfl) rfl rfl rfl (w64 (by omega) (by omega)) ?_
    refine AtL.assign (.inl rfl) rfl rfl ?_
    refine AtL.done ?_
    refine At.pick (H' := s12 :: H) [1] 2 rfl rfl ?_
    refine ihL1 (j + 1) (⟨A10, C11, y.l ++ [letB.getD ((2 * ((2 * ((2 * ((2 * ((2 * (0 + (bitAt b ((6 * j : Nat) + 0) : Nat))) + (bitAt b ((6 * j : Nat) + 1) : Nat))) + (bitAt b ((6 * j : Nat) + 2) : Nat))) + (bitAt b ((6 * j : Nat) + 3) : Nat))) + (bitAt b ((6 * j : Nat) + 4) : Nat))) + (bitAt b ((6 * j : Nat) + 5) : Nat)) 0], s12, o13⟩) (⟨by omega, by dsimp only; rw [hy]; exact encTo_snoc b j _ (by omega) (by omega)⟩) (by omega) _ ?_
    exact ⟨rfl, rfl, (by first | rfl | exact slLen (by simp []) | exact intEq (by omega) | exact intEq (by simp []) | exact slLen (by simp []; omega)), (by first | rfl | exact slLen (by simp []) | exact intEq (by omega) | exact intEq (by simp []) | exact slLen (by simp []; omega)), trivial⟩
  · intro hc1
    have hc1 : ¬ (((6 * j : Nat) : Int) < (8 * (b.length : Int))) := of_decide_eq_false hc1
    refine At.exit rfl ?_
    refine At.seq ?_
    refine At.region ?_
    refine AtL.move (.inl rfl) rfl rfl ?_
    refine AtL.strOf (y.own.rd (i := 0) rfl) Tryz.underlying22 Tryz.underlying5 Tryz.underlying9 (.inl rfl) rfl rfl ?_
    refine AtL.assign (.inl rfl) rfl rfl ?_
    refine AtL.done ?_
    refine At.pick (H' := H) [] 1 rfl rfl ?_
    exact At.ret Tryz.func46 rfl rfl (⟨by rw [hy, encTo_all (by omega) hj]; rfl, rfl⟩)

end Go.Proofs.YtlkdmbpbjhjkfaaGreatDoor
