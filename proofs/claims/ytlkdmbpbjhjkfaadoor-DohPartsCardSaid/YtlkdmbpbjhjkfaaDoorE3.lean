/- Bytes as letters: the answer reads. -/
import Derived.Test.YtlkdmbpbjhjkfaaDoorE2
namespace Go.Proofs.YtlkdmbpbjhjkfaaDoor
set_option linter.unusedVariables false
set_option linter.unusedSimpArgs false
set_option maxRecDepth 100000

def numI (c : UInt8) : Int := if num64 c < 64 then (num64 c : Int) else -1
theorem numI_at {c : UInt8} {k : Nat} (hk : k < 64) (h : ((letB.getD k 0).toNat : Int) = (c.toNat : Int)) : numI c = (k : Int) := by
  have e := u8_same h
  rw [numI, ← e, let_num hk, if_pos hk]
theorem numI_none {c : UInt8} {k : Nat} (hk : 64 ≤ k) (h : ∀ j, j < k → ¬ ((letB.getD j 0).toNat : Int) = (c.toNat : Int)) : numI c = -1 := by
  rw [numI, if_neg]
  intro h2
  exact h (num64 c) (by omega) (by rw [num_let h2])
theorem numI_neg (c : UInt8) : numI c < 0 ↔ 64 ≤ num64 c := by
  unfold numI; split <;> omega
theorem getD_l {α : Type} {a b : List α} {i : Nat} {d : α} (h : i < a.length) : (a ++ b).getD i d = a.getD i d := by simp [List.getD, List.getElem?_append_left h]
theorem getD_r {α : Type} {a b : List α} {i : Nat} {d : α} (h : a.length ≤ i) : (a ++ b).getD i d = b.getD (i - a.length) d := by simp [List.getD, List.getElem?_append_right h]
theorem bitsS_get {s : List UInt8} {i : Nat} (h : i < 6 * s.length) : (bitsS s).getD i false = (num64 (s.getD (i / 6) 0)).testBit (5 - i % 6) := by
  induction s generalizing i with
  | nil => simp at h
  | cons c s ih =>
    have e : bitsS (c :: s) = b6 (num64 c) ++ bitsS s := rfl
    rw [e]
    by_cases h6 : i < 6
    · have h0 : i / 6 = 0 := by omega
      have h1 : i % 6 = i := by omega
      rw [h0, h1, getD_l (by rw [b6_len]; exact h6)]
      have : i = 0 ∨ i = 1 ∨ i = 2 ∨ i = 3 ∨ i = 4 ∨ i = 5 := by omega
      rcases this with rfl | rfl | rfl | rfl | rfl | rfl <;> rfl
    · rw [getD_r (by rw [b6_len]; omega), b6_len, ih (by simp only [List.length_cons] at h; omega)]
      have e1 : i / 6 = (i - 6) / 6 + 1 := by omega
      have e2 : (i - 6) % 6 = i % 6 := by omega
      rw [e1, e2]; rfl
theorem or8 (c d : UInt8) : IntKind.u8.wrap ((BitVec.ofInt IntKind.u8.bits (c.toNat : Int) ||| BitVec.ofInt IntKind.u8.bits (d.toNat : Int)).toNat : Int) = ((c ||| d).toNat : Int) := by
  have h1 := c.toNat_lt
  have h2 := d.toNat_lt
  have e : (BitVec.ofInt IntKind.u8.bits (c.toNat : Int) ||| BitVec.ofInt IntKind.u8.bits (d.toNat : Int)).toNat = (c ||| d).toNat := by
    show (BitVec.ofInt 8 (c.toNat : Int) ||| BitVec.ofInt 8 (d.toNat : Int)).toNat = _
    rw [BitVec.toNat_or, BitVec.toNat_ofInt, BitVec.toNat_ofInt, UInt8.toNat_or]
    congr 1 <;> omega
  have h3 := (c ||| d).toNat_lt
  rw [e]; exact w8 (by omega) (by omega)
theorem shl8N {x r : Nat} (hx : x < 2) (hr : r ≤ 7) : IntKind.u8.wrap (((UInt8.ofNat x).toNat : Int) * 2 ^ (min ((r : Int)).toNat IntKind.u8.bits)) = ((UInt8.ofNat (x * 2 ^ r)).toNat : Int) := by
  have e : min ((r : Int)).toNat IntKind.u8.bits = r := by show min ((r : Int)).toNat 8 = r; rw [Int.toNat_natCast]; omega
  have e2 : (UInt8.ofNat x).toNat = x := by simp; omega
  rw [e, e2, cast_pow, ← Int.natCast_mul]
  exact u8_nat _
theorem set_b8 (c : UInt8) {r : Nat} (hr : r < 8) : b8 (c ||| UInt8.ofNat (1 * 2 ^ (7 - r))) = (b8 c).set r true := by
  have h := (by decide +kernel : ∀ n : Fin 256, ∀ r : Fin 8, b8 (UInt8.ofNat n.val ||| UInt8.ofNat (1 * 2 ^ (7 - r.val))) = (b8 (UInt8.ofNat n.val)).set r.val true) ⟨c.toNat, c.toNat_lt⟩ ⟨r, hr⟩
  simpa using h
theorem set_bits {O : List UInt8} {i : Nat} (h : i / 8 < O.length) : bits8 (O.set (i / 8) (O.getD (i / 8) 0 ||| UInt8.ofNat (1 * 2 ^ (7 - i % 8)))) = (bits8 O).set i true := by
  have e1 : O = O.take (i / 8) ++ O.getD (i / 8) 0 :: O.drop (i / 8 + 1) := by
    conv => lhs; rw [← List.take_append_drop (i / 8) O, List.drop_eq_getElem_cons h]
    simp [List.getD, h]
  have hl : (O.take (i / 8)).length = i / 8 := by rw [List.length_take]; omega
  have e2 : ∀ d, O.set (i / 8) d = O.take (i / 8) ++ d :: O.drop (i / 8 + 1) := by
    intro d
    conv => lhs; rw [e1]
    rw [List.set_append_right _ _ (by omega), hl, Nat.sub_self]; rfl
  have e3 : ∀ d, bits8 (O.take (i / 8) ++ d :: O.drop (i / 8 + 1)) = bits8 (O.take (i / 8)) ++ (b8 d ++ bits8 (O.drop (i / 8 + 1))) := by
    intro d; rw [bits8_app]; rfl
  have hl8 : (bits8 (O.take (i / 8))).length = 8 * (i / 8) := by rw [bits8_len, hl]
  rw [e2, e3, set_b8 _ (by omega)]
  conv => rhs; rw [e1, e3]
  rw [List.set_append_right _ _ (by omega), hl8, List.set_append_left _ _ (by rw [b8_len]; omega), show i - 8 * (i / 8) = i % 8 by omega]
theorem or_zero (O : List UInt8) (j : Nat) (k : Nat) : O.set j (O.getD j 0 ||| UInt8.ofNat (0 * 2 ^ k)) = O := by
  have e : O.getD j 0 ||| UInt8.ofNat (0 * 2 ^ k) = O.getD j 0 := by rw [Nat.zero_mul]; exact UInt8.or_zero
  rw [e]
  by_cases h : j < O.length
  · simp [List.getD, h]
  · rw [List.set_eq_of_length_le (by omega)]
theorem pad_step {B : List Bool} {i m : Nat} (hi : i < B.length) : (B.take i ++ List.replicate (m + 1) false).set i (B.getD i false) = B.take (i + 1) ++ List.replicate m false := by
  rw [List.set_append_right _ _ (by rw [List.length_take]; omega), List.length_take, show i - min i B.length = 0 by omega, List.replicate_succ, List.set_cons_zero, List.take_succ_eq_append_getElem hi, List.append_assoc]
  simp [List.getD, hi]
theorem dec_set {s O : List UInt8} {i n x : Nat} (hO : O.length = n) (hi : i < 8 * n) (hn : 8 * n ≤ 6 * s.length) (hx : x = ((bitsS s).getD i false).toNat) (h : bits8 O = (bitsS s).take i ++ List.replicate (8 * n - i) false) :
    bits8 (O.set (i / 8) (O.getD (i / 8) 0 ||| UInt8.ofNat (x * 2 ^ (7 - i % 8)))) = (bitsS s).take (i + 1) ++ List.replicate (8 * n - (i + 1)) false := by
  have hp := pad_step (B := bitsS s) (i := i) (m := 8 * n - (i + 1)) (by rw [bitsS_len]; omega)
  rw [show 8 * n - (i + 1) + 1 = 8 * n - i by omega] at hp
  rw [← hp, ← h, hx]
  cases hb : (bitsS s).getD i false with
  | true => exact set_bits (by omega)
  | false =>
    show bits8 (O.set (i / 8) (O.getD (i / 8) 0 ||| UInt8.ofNat (0 * 2 ^ _))) = _
    rw [or_zero]
    rw [hb] at hp
    rw [h, hp]
    have h2 : (bitsS s).take (i + 1) ++ List.replicate (8 * n - (i + 1)) false = (bitsS s).take i ++ List.replicate (8 * n - i) false := by
      rw [List.take_succ_eq_append_getElem (by rw [bitsS_len]; omega), show 8 * n - i = 8 * n - (i + 1) + 1 by omega, List.replicate_succ, List.append_assoc]
      have e : (bitsS s)[i]'(by rw [bitsS_len]; omega) = false := by
        have := hb
        rw [List.getD, List.getElem?_eq_getElem (by rw [bitsS_len]; omega)] at this
        exact this
      rw [e]; rfl
    exact h2.symm

theorem dec_start (s : List UInt8) (n : Nat) : bits8 (List.replicate n 0) = (bitsS s).take 0 ++ List.replicate (8 * n - 0) false := by
  induction n with
  | zero => rfl
  | succ n ih =>
    rw [List.replicate_succ]
    have e : bits8 (0 :: List.replicate n 0) = List.replicate 8 false ++ bits8 (List.replicate n 0) := rfl
    rw [e, ih, List.take_zero, List.nil_append, List.nil_append, List.replicate_append_replicate]
    congr 1; omega
theorem dec_end {s O : List UInt8} {n : Nat} (hs : (s.all fun c => decide (num64 c < 64)) = true) (hn : n = 6 * s.length / 8) (h1 : ¬ s.length % 4 = 1) (hO : bits8 O = (bitsS s).take (8 * n)) (hz : ∀ j, 8 * n ≤ j → j < 6 * s.length → (bitsS s).getD j false = false) : decB s = some O := by
  have hl := congrArg List.length hO
  rw [bits8_len, List.length_take, bitsS_len] at hl
  have hb : bits8 O ++ (bitsS s).drop (8 * n) = bitsS s := by rw [hO, List.take_append_drop]
  rw [decB_of hs (p := (bitsS s).drop (8 * n)) (by rw [List.length_drop, bitsS_len]; omega) hb, if_neg]
  rintro (h2 | h2)
  · exact h1 h2
  · rw [List.any_eq_true] at h2
    obtain ⟨x, hx, hx2⟩ := h2
    obtain ⟨j, hj, rfl⟩ := List.mem_iff_getElem.1 hx
    rw [List.length_drop, bitsS_len] at hj
    have := hz (8 * n + j) (by omega) (by omega)
    rw [List.getD, List.getElem?_eq_getElem (by rw [bitsS_len]; omega)] at this
    rw [List.getElem_drop] at hx2
    rw [Option.getD_some] at this
    rw [this] at hx2; cases hx2
theorem dec_one {s : List UInt8} {i n : Nat} (hn : n = 6 * s.length / 8) (h1 : 8 * n ≤ i) (h2 : i < 6 * s.length) (hb : (bitsS s).getD i false = true) : decB s = none := by
  unfold decB
  rw [if_neg]
  rintro ⟨_, _, h3⟩
  rw [List.any_eq_false] at h3
  apply h3 true
  · rw [← hn, List.mem_iff_getElem]
    refine ⟨i - 8 * n, by rw [List.length_drop, bitsS_len]; omega, ?_⟩
    rw [List.getElem_drop]
    rw [List.getD, List.getElem?_eq_getElem (by rw [bitsS_len]; omega), Option.getD_some] at hb
    rw [← hb]; congr 1; omega
  · rfl
theorem dec_len {s : List UInt8} (h : s.length % 4 = 1) : decB s = none := by
  unfold decB; rw [if_neg]; rintro ⟨_, h2, _⟩; exact h2 h
theorem bit_val {c : UInt8} {r : Nat} (hc : num64 c < 64) : ((num64 c / 2 ^ r % 2 : Nat)) = ((num64 c).testBit r).toNat := by rw [Nat.toNat_testBit]

end Go.Proofs.YtlkdmbpbjhjkfaaDoor
