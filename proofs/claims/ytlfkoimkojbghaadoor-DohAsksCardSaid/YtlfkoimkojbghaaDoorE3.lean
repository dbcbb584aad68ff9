/- Bytes as letters: the answer reads. -/
import Derived.Test.YtlfkoimkojbghaaDoorE2
namespace Go.Proofs.YtlfkoimkojbghaaDoor
set_option linter.unusedVariables false
set_option linter.unusedSimpArgs false
set_option maxRecDepth 100000

def numI (c : UInt8) : Int := if num64 c < 64 then (num64 c : Int) else -1
theorem numI_at {c : UInt8} {k : Nat} (hk : k < 64) (h : ((letB.getD k 0).toNat : Int) = (c.toNat : Int)) : numI c = (k : Int) := by
  have e := u8_same h
  rw [numI, ← e, let_num hk, if_pos hk]
theorem numI_none {c : UInt8} {k : Nat} (hk : 64 ≤ k) (h : ∀ j, j < k → ¬ ((letB.getD j 0).toNat : Int) = (c.toNat : Int)) : numI c = -1 := by
  rw [numI, if_neg]
  intro h2
  exact h (num64 c) (by omega) (by rw [num_let h2])
theorem numI_neg (c : UInt8) : numI c < 0 ↔ 64 ≤ num64 c := by
  unfold numI; split <;> omega
theorem getD_l {α : Type} {a b : List α} {i : Nat} {d : α} (h : i < a.length) : (a ++ b).getD i d = a.getD i d := by simp [List.getD, List.getElem?_append_left h]
theorem getD_r {α : Type} {a b : List α} {i : Nat} {d : α} (h : a.length ≤ i) : (a ++ b).getD i d = b.getD (i - a.length) d := by simp [List.getD, List.getElem?_append_right h]
theorem bitsS_get {s : List UInt8} {i : Nat} (h : i < 6 * s.length) : (bitsS s).getD i false = (num64 (s.getD (i / 6) 0)).testBit (5 - i % 6) := by
  induction s generalizing i with
  | nil => simp at h
  | cons c s ih =>
    have e : bitsS (c :: s) = b6 (num64 c) ++ bitsS s := rfl
    rw [e]
    by_cases h6 : i < 6
    · have h0 : i / 6 = 0 := by omega
      have h1 : i % 6 = i := by omega
      rw [h0, h1, getD_l (by rw [b6_len]; exact h6)]
      have : i = 0 ∨ i = 1 ∨ i = 2 ∨ i = 3 ∨ i = 4 ∨ i = 5 := by omega
      rcases this with rfl | rfl | rfl | rfl | rfl | rfl <;> rfl
    · rw [getD_r (by rw [b6_len]; omega), b6_len, ih (by simp only [List.length_cons] at h; omega)]
      have e1 : i / 6 = (i - 6) / 6 + 1 := by omega
      have e2 : (i - 6) % 6 = i % 6 := by omega
      rw [e1, e2]; rfl
theorem or8 (c d : UInt8) : IntKind.u8.wrap ((BitVec.ofInt IntKind.u8.bits (c.toNat : Int) ||| BitVec.ofInt IntKind.u8.bits (d.toNat : Int)).toNat : Int) = ((c ||| d).toNat : Int) := by
  have h1 := c.toNat_lt
  have h2 := d.toNat_lt
  have e : (BitVec.ofInt IntKind.u8.bits (c.toNat : Int) ||| BitVec.ofInt IntKind.u8.bits (d.toNat : Int)).toNat = (c ||| d).toNat := by
    show (BitVec.ofInt 8 (c.toNat : Int) ||| BitVec.ofInt 8 (d.toNat : Int)).toNat = _
    rw [BitVec.toNat_or, BitVec.toNat_ofInt, BitVec.toNat_ofInt, UInt8.toNat_or]
    congr 1 <;> omega
  have h3 := (c ||| d).toNat_lt
  rw [e]; exact w8 (by omega) (by omega)
theorem shl8N {x r : Nat} (hx : x < 2) (hr : r ≤ 7) : IntKind.u8.wrap (((UInt8.ofNat x).toNat : Int) * 2 ^ (min ((r : Int)).toNat IntKind.u8.bits)) = ((UInt8.ofNat (x * 2 ^ r)).toNat : Int) := by
  have e : min ((r : Int)).toNat IntKind.u8.bits = r := by show min ((r : Int)).toNat 8 = r; rw [Int.toNat_natCast]; omega
  have e2 : (UInt8.ofNat x).toNat = x := by simp; omega
  rw [e, e2, cast_pow, ← Int.natCast_mul]
  exact u8_nat _
theorem set_b8 (c : UInt8) {r : Nat} (hr : r < 8) : b8 (c ||| UInt8.ofNat (1 * 2 ^ (7 - r))) = (b8 c).set r true := by
  have h := (by decide +kernel : ∀ n : Fin 256, ∀ r : Fin 8, b8 (UInt8.ofNat n.val ||| UInt8.ofNat (1 * 2 ^ (7 - r.val))) = (b8 (UInt8.ofNat n.val)).set r.val true) ⟨c.toNat, c.toNat_lt⟩ ⟨r, hr⟩
  simpa using h
theorem set_bits {O : List UInt8} {i : Nat} (h : i / 8 < O.length) : bits8 (O.set (i / 8) (O.getD (i / 8) 0 ||| UInt8.ofNat (1 * 2 ^ (7 - i % 8)))) = (bits8 O).set i true := by
  have e1 : O = O.take (i / 8) ++ O.getD (i / 8) 0 :: O.drop (i / 8 + 1) := by
    conv => lhs; rw [← List.take_append_drop (i / 8) O, List.drop_eq_getElem_cons h]
    simp [List.getD, h]
  have hl : (O.take (i / 8)).length = i / 8 := by rw [List.length_take]; omega
  have e2 : ∀ d, O.set (i / 8) d = O.take (i / 8) ++ d :: O.drop (i / 8 + 1) := by
    intro d
    conv => lhs; rw [e1]
    rw [List.set_append_right _ _ (by omega), hl, Nat.sub_self]; rfl
  have e3 : ∀ d, bits8 (O.take (i / 8) ++ d :: O.drop (i / 8 + 1)) = bits8 (O.take (i / 8)) ++ (b8 d ++ bits8 (O.drop (i / 8 + 1))) := by
    intro d; rw [bits8_app]; rfl
  have hl8 : (bits8 (O.take (i / 8))).length = 8 * (i / 8) := by rw [bits8_len, hl]
  rw [e2, e3, set_b8 _ (by omega)]
  conv => rhs; rw [e1, e3]
  rw [List.set_append_right _ _ (by omega), hl8, List.set_append_left _ _ (by rw [b8_len]; omega), show i - 8 * (i / 8) = i % 8 by omega]
theorem or_zero (O : List UInt8) (j : Nat) (k : Nat) : O.set j (O.getD j 0 ||| UInt8.ofNat (0 * 2 ^ k)) = O := by
  have e : O.getD j 0 ||| UInt8.ofNat (0 * 2 ^ k) = O.getD j 0 := by rw [Nat.zero_mul]; exact UInt8.or_zero
  rw [e]
  by_cases h : j < O.length
  · simp [List.getD, h]
  · rw [List.set_eq_of_length_le (by omega)]
theorem pad_step {B : List Bool} {i m : Nat} (hi : i < B.length) : (B.take i ++ List.replicate (m + 1) false).set i (B.getD i false) = B.take (i + 1) ++ List.replicate m false := by
  rw [List.set_append_right _ _ (by rw [List.length_take]; omega), List.length_take, show i - min i B.length = 0 by omega, List.replicate_succ, List.set_cons_zero, List.take_succ_eq_append_getElem hi, List.append_assoc]
  simp [List.getD, hi]
theorem dec_set {s O : List UInt8} {i n x : Nat} (hO : O.length = n) (hi : i < 8 * n) (hn : 8 * n ≤ 6 * s.length) (hx : x = ((bitsS s).getD i false).toNat) (h : bits8 O = (bitsS s).take i ++ List.replicate (8 * n - i) false) :
    bits8 (O.set (i / 8) (O.getD (i / 8) 0 ||| UInt8.ofNat (x * 2 ^ (7 - i % 8)))) = (bitsS s).take (i + 1) ++ List.replicate (8 * n - (i + 1)) false := by
  have hp := pad_step (B := bitsS s) (i := i) (m := 8 * n - (i + 1)) (by rw [bitsS_len]; omega)
  rw [show 8 * n - (i + 1) + 1 = 8 * n - i by omega] at hp
  rw [← hp, ← h, hx]
  cases hb : (bitsS s).getD i false with
  | true => exact set_bits (by omega)
  | false =>
    show bits8 (O.set (i / 8) (O.getD (i / 8) 0 ||| UInt8.ofNat (0 * 2 ^ _))) = _
    rw [or_zero]
    rw [hb] at hp
    rw [h, hp]
    have h2 : (bitsS s).take (i + 1) ++ List.replicate (8 * n - (i + 1)) false = (bitsS s).take i ++ List.replicate (8 * n - i) false := by
      rw [List.take_succ_eq_append_getElem (by rw [bitsS_len]; omega), show 8 * n - i = 8 * n - (i + 1) + 1 by omega, List.replicate_succ, List.append_assoc]
      have e : (bitsS s)[i]'(by rw [bitsS_len]; omega) = false := by
        have := hb
        rw [List.getD, List.getElem?_eq_getElem (by rw [bitsS_len]; omega)] at this
        exact this
      rw [e]; rfl
    exact h2.symm

set_option maxHeartbeats 400000 in
theorem b64let_ok {w0 : World} {base : Nat} {H : List Seg}  :
    SCalls Tryd.prog 125 [] w0 base (H) (fun v H' => v = str letB ∧ H' = H) := by
  refine SCalls.of_walk (n := 1) Tryd.func125 rfl rfl rfl fun cs => ?_
  refine At.seq ?_
  refine At.region ?_
  refine AtL.assign (.inl rfl) rfl rfl ?_
  refine AtL.done ?_
  refine At.seq ?_
  refine At.region ?_
  refine AtL.assign (.inl rfl) rfl rfl ?_
  refine AtL.done ?_
  exact At.ret Tryd.func125 rfl rfl (⟨rfl, rfl⟩)

set_option maxHeartbeats 400000 in
theorem number_ok {w0 : World} {base : Nat} {H : List Seg} (c : UInt8) :
    SCalls Tryd.prog 93 [.int .u8 (c.toNat : Int)] w0 base (H) (fun v H' => v = int (numI c) ∧ H' = H) := by
  have hll := letB_len
  refine SCalls.of_walk (n := 16) Tryd.func93 rfl rfl rfl fun cs => ?_
  refine At.seq ?_
  refine At.region ?_
  refine AtL.assign (.inl rfl) rfl rfl ?_
  refine AtL.done ?_
  refine At.seq ?_
  refine At.region ?_
  refine AtL.call tf_body125 (.inl rfl) rfl rfl b64let_ok ?_
  rintro _ _ ⟨rfl, hHq⟩
  obtain rfl := hHq.symm
  refine AtL.assign (.inl rfl) rfl rfl ?_
  refine AtL.done ?_
  refine At.seq ?_
  refine At.seq ?_
  refine At.region ?_
  refine AtL.assign (.inl rfl) rfl rfl ?_
  refine AtL.done ?_
  refine At.block ?_
  refine At.loop (fun (k : Nat) => [(0, .int .u8 (c.toNat : Int)), (3, str letB), (4, .int .i64 (k : Int))]) (fun (k : Nat) => H) (fun (k : Nat) => k ≤ 64 ∧ ∀ j, j < k → ¬ ((letB.getD j 0).toNat : Int) = (c.toNat : Int)) (fun (k : Nat) => 64 - k) 0 (⟨Nat.zero_le _, fun j hj => absurd hj (by omega)⟩) ⟨rfl, rfl, rfl, trivial⟩ rfl ?_
  rintro k ⟨hk, hno⟩ ihL1
  refine At.seq ?_
  refine At.seq ?_
  refine At.region ?_
  refine AtL.move (.inl rfl) rfl rfl ?_
  refine AtL.lss (.inl rfl) rfl rfl rfl ?_
  refine AtL.done ?_
  refine At.cond rfl ?_ ?_
  · intro hc1
    have hc1 : (k : Int) < 64 := of_decide_eq_true hc1
    refine At.skip ?_
    refine At.seq ?_
    refine At.block ?_
    refine At.seq ?_
    refine At.region ?_
    refine AtL.move (.inl rfl) rfl rfl ?_
    refine AtL.move (.inl rfl) rfl rfl ?_
    refine AtL.indexS (l := letB) k rfl (by omega) Tryd.underlying9 (.inl rfl) rfl rfl rfl ?_
    refine AtL.move (.inl rfl) rfl rfl ?_
    refine AtL.eqi (.inl rfl) rfl rfl rfl ?_
    refine AtL.done ?_
    refine At.cond rfl ?_ ?_
    · intro hc2
      have hc2 : ((letB.getD k 0).toNat : Int) = (c.toNat : Int) := of_decide_eq_true hc2
      refine At.seq ?_
      refine At.region ?_
      refine AtL.move (.inl rfl) rfl rfl ?_
      refine AtL.assign (.inl rfl) rfl rfl ?_
      refine AtL.done ?_
      exact At.ret Tryd.func93 rfl rfl (⟨by rw [numI_at (by omega) hc2]; rfl, rfl⟩)
    · intro hc2
      have hc2 : ¬ (((letB.getD k 0).toNat : Int) = (c.toNat : Int)) := of_decide_eq_false hc2
      refine At.skip ?_
      refine At.inBlock ?_
      refine At.region ?_
      refine AtL.move (.inl rfl) rfl rfl ?_
      refine AtL.add (z := (k : Int) + 1) (.inl rfl) rfl rfl rfl (w64 (by omega) (by omega)) ?_
      refine AtL.assign (.inl rfl) rfl rfl ?_
      refine AtL.done ?_
      refine ihL1 (k + 1) (⟨by omega, fun j hj => by rcases Nat.lt_or_ge j k with h1 | h1; exact hno j h1; obtain rfl : j = k := (by omega); exact hc2⟩) (by omega) _ ?_
      exact ⟨rfl, rfl, (by first | rfl | exact slLen (by simp []) | exact intEq (by omega) | exact intEq (by simp []) | exact slLen (by simp []; omega)), trivial⟩
  · intro hc1
    have hc1 : ¬ ((k : Int) < 64) := of_decide_eq_false hc1
    refine At.exit rfl ?_
    refine At.seq ?_
    refine At.region ?_
    refine AtL.assign (.inl rfl) rfl rfl ?_
    refine AtL.done ?_
    exact At.ret Tryd.func93 rfl rfl (⟨by rw [numI_none (by omega) hno]; rfl, rfl⟩)

set_option maxHeartbeats 400000 in
theorem rsize_ok {w0 : World} {base : Nat} {H : List Seg} (n : Nat) (hn : n ≤ 4294967280) :
    SCalls Tryd.prog 94 [.int .i64 (n : Int)] w0 base (H) (fun v H' => v = .tuple #[int (if n % 4 = 1 then 0 else ((6 * n / 8 : Nat) : Int)), .bool (decide (n % 4 ≠ 1))] ∧ H' = H) := by
  refine SCalls.of_walk (n := 19) Tryd.func94 rfl rfl rfl fun cs => ?_
  refine At.seq ?_
  refine At.region ?_
  refine AtL.assign (.inl rfl) rfl rfl ?_
  refine AtL.assign (.inl rfl) rfl rfl ?_
  refine AtL.done ?_
  refine At.seq ?_
  refine At.seq ?_
  refine At.region ?_
  refine AtL.move (.inl rfl) rfl rfl ?_
  refine AtL.lss (.inl rfl) rfl rfl rfl ?_
  refine AtL.move (.inl rfl) rfl rfl ?_
  refine AtL.join 4 (E' := [(10, .bool (decide (((n : Int) < 0) ∨ (((n : Int) % 4) = 1)))), (0, .int .i64 (n : Int))]) (H' := H) (fun J => ?_) ?_
  · refine AtL.split (t := 6) rfl ?_ ?_
    · intro hs6
      have hs6 : (n : Int) < 0 := of_decide_eq_true hs6
      refine AtL.skipped rfl rfl rfl rfl rfl rfl ?_
      refine AtL.skipped rfl rfl rfl rfl rfl rfl ?_
      refine AtL.skipped rfl rfl rfl rfl rfl rfl ?_
      refine AtL.pickT (.inl rfl) rfl rfl rfl ?_
      exact J _ (by exact ⟨(boolIs (by clear J; first | (simp [hs6]; done) | (simp_all; done) | grind)), rfl, trivial⟩)
    · intro hs6
      have hs6 : ¬ ((n : Int) < 0) := of_decide_eq_false hs6
      refine AtL.move (.inr ⟨_, _, _, rfl, rfl, rfl, rfl⟩) rfl rfl ?_
      refine AtL.rem (z := (n : Int) % 4) (.inr ⟨_, _, _, rfl, rfl, rfl, rfl⟩) rfl rfl rfl (by omega) (rem_eq (by omega)) ?_
      refine AtL.eqi (.inr ⟨_, _, _, rfl, rfl, rfl, rfl⟩) rfl rfl rfl ?_
      refine AtL.pickF (.inl rfl) rfl rfl rfl ?_
      exact J _ (by exact ⟨(boolIs (by clear J; first | (simp [hs6]; done) | (simp_all; done) | grind)), rfl, trivial⟩)
  · skip
    refine AtL.done ?_
    refine At.cond rfl ?_ ?_
    · intro hc1
      have hc1 : ((n : Int) < 0) ∨ (((n : Int) % 4) = 1) := of_decide_eq_true hc1
      refine At.seq ?_
      refine At.region ?_
      refine AtL.assign (.inl rfl) rfl rfl ?_
      refine AtL.assign (.inl rfl) rfl rfl ?_
      refine AtL.done ?_
      exact At.ret Tryd.func94 rfl rfl (⟨by rw [if_pos (show n % 4 = 1 by omega), decide_eq_false (show ¬ n % 4 ≠ 1 by omega)]; rfl, rfl⟩)
    · intro hc1
      have hc1 : ¬ (((n : Int) < 0) ∨ (((n : Int) % 4) = 1)) := of_decide_eq_false hc1
      refine At.skip ?_
      refine At.seq ?_
      refine At.region ?_
      refine AtL.move (.inl rfl) rfl rfl ?_
      refine AtL.quo (z := (n : Int) / 4) (.inl rfl) rfl rfl rfl (by omega) (quo_eq (by omega) (by omega) (by omega)) ?_
      refine AtL.mul (z := ((n : Int) / 4) * 3) (.inl rfl) rfl rfl rfl (w64 (by omega) (by omega)) ?_
      refine AtL.move (.inl rfl) rfl rfl ?_
      refine AtL.rem (z := (n : Int) % 4) (.inl rfl) rfl rfl rfl (by omega) (rem_eq (by omega)) ?_
      refine AtL.mul (z := ((n : Int) % 4) * 6) (.inl rfl) rfl rfl rfl (w64 (by omega) (by omega)) ?_
      refine AtL.quo (z := (((n : Int) % 4) * 6) / 8) (.inl rfl) rfl rfl rfl (by omega) (quo_eq (by omega) (by omega) (by omega)) ?_
      refine AtL.add (z := (((n : Int) / 4) * 3) + ((((n : Int) % 4) * 6) / 8)) (.inl rfl) rfl rfl rfl (w64 (by omega) (by omega)) ?_
      refine AtL.assign (.inl rfl) rfl rfl ?_
      refine AtL.assign (.inl rfl) rfl rfl ?_
      refine AtL.done ?_
      exact At.ret Tryd.func94 rfl rfl (⟨by rw [if_neg (show ¬ n % 4 = 1 by omega), decide_eq_true (show n % 4 ≠ 1 by omega), show ((6 * n / 8 : Nat) : Int) = (((n : Int) / 4) * 3) + ((((n : Int) % 4) * 6) / 8) by omega]; rfl, rfl⟩)

theorem dec_start (s : List UInt8) (n : Nat) : bits8 (List.replicate n 0) = (bitsS s).take 0 ++ List.replicate (8 * n - 0) false := by
  induction n with
  | zero => rfl
  | succ n ih =>
    rw [List.replicate_succ]
    have e : bits8 (0 :: List.replicate n 0) = List.replicate 8 false ++ bits8 (List.replicate n 0) := rfl
    rw [e, ih, List.take_zero, List.nil_append, List.nil_append, List.replicate_append_replicate]
    congr 1; omega
theorem dec_end {s O : List UInt8} {n : Nat} (hs : (s.all fun c => decide (num64 c < 64)) = true) (hn : n = 6 * s.length / 8) (h1 : ¬ s.length % 4 = 1) (hO : bits8 O = (bitsS s).take (8 * n)) (hz : ∀ j, 8 * n ≤ j → j < 6 * s.length → (bitsS s).getD j false = false) : decB s = some O := by
  have hl := congrArg List.length hO
  rw [bits8_len, List.length_take, bitsS_len] at hl
  have hb : bits8 O ++ (bitsS s).drop (8 * n) = bitsS s := by rw [hO, List.take_append_drop]
  rw [decB_of hs (p := (bitsS s).drop (8 * n)) (by rw [List.length_drop, bitsS_len]; omega) hb, if_neg]
  rintro (h2 | h2)
  · exact h1 h2
  · rw [List.any_eq_true] at h2
    obtain ⟨x, hx, hx2⟩ := h2
    obtain ⟨j, hj, rfl⟩ := List.mem_iff_getElem.1 hx
    rw [List.length_drop, bitsS_len] at hj
    have := hz (8 * n + j) (by omega) (by omega)
    rw [List.getD, List.getElem?_eq_getElem (by rw [bitsS_len]; omega)] at this
    rw [List.getElem_drop] at hx2
    rw [Option.getD_some] at this
    rw [this] at hx2; cases hx2
theorem dec_one {s : List UInt8} {i n : Nat} (hn : n = 6 * s.length / 8) (h1 : 8 * n ≤ i) (h2 : i < 6 * s.length) (hb : (bitsS s).getD i false = true) : decB s = none := by
  unfold decB
  rw [if_neg]
  rintro ⟨_, _, h3⟩
  rw [List.any_eq_false] at h3
  apply h3 true
  · rw [← hn, List.mem_iff_getElem]
    refine ⟨i - 8 * n, by rw [List.length_drop, bitsS_len]; omega, ?_⟩
    rw [List.getElem_drop]
    rw [List.getD, List.getElem?_eq_getElem (by rw [bitsS_len]; omega), Option.getD_some] at hb
    rw [← hb]; congr 1; omega
  · rfl
theorem dec_len {s : List UInt8} (h : s.length % 4 = 1) : decB s = none := by
  unfold decB; rw [if_neg]; rintro ⟨_, h2, _⟩; exact h2 h
theorem bit_val {c : UInt8} {r : Nat} (hc : num64 c < 64) : ((num64 c / 2 ^ r % 2 : Nat)) = ((num64 c).testBit r).toNat := by rw [Nat.toNat_testBit]

set_option maxHeartbeats 400000 in
theorem b64rdec_ok {w0 : World} {base : Nat} {H : List Seg} {s : List UInt8} (hs : s.length ≤ 4294967280) :
    SCalls Tryd.prog 53 [str s] w0 base (H) (fun v H' => ∃ (x : Sl tyB 5) (at_ : Int), x.l = (decB s).getD [] ∧ v = .tuple #[.slice x.A x.l.length x.C, .agg #[int (if (decB s).isSome = true then 0 else 4), int at_]] ∧ H' = x.s :: H) := by
  refine SCalls.of_walk (n := 81) Tryd.func53 rfl rfl rfl fun cs => ?_
  refine At.seq ?_
  refine At.region ?_
  refine AtL.assign (.inl rfl) rfl rfl ?_
  refine AtL.alloc tf_zero81 (cs := #[.int .i64 0, .int .i64 0]) rfl (.inl rfl) rfl ?_
  intro b1
  refine AtL.done ?_
  refine At.seq ?_
  refine At.seq ?_
  refine At.region ?_
  refine AtL.assign (.inl rfl) rfl rfl ?_
  refine AtL.done ?_
  refine At.block ?_
  refine At.loop (fun (i : Nat) => [(0, str s), (3, .pointer (some ⟨b1, 0, none⟩)), (4, .int .i64 (i : Int))]) (fun (i : Nat) => [(b1, .cells #[.int .i64 0, .int .i64 0] 81 (0, 0))] :: H) (fun (i : Nat) => i ≤ s.length ∧ (s.take i).all (fun c => decide (num64 c < 64)) = true) (fun (i : Nat) => s.length - i) 0 (⟨Nat.zero_le _, rfl⟩) ⟨rfl, rfl, rfl, trivial⟩ rfl ?_
  rintro i ⟨hi, hall⟩ ihL1
  refine At.seq ?_
  refine At.seq ?_
  refine At.region ?_
  refine AtL.move (.inl rfl) rfl rfl ?_
  refine AtL.move (.inl rfl) rfl rfl ?_
  refine AtL.lenS (l := s) Tryd.underlying9 (.inl rfl) rfl rfl ?_
  refine AtL.lss (.inl rfl) rfl rfl rfl ?_
  refine AtL.done ?_
  refine At.cond rfl ?_ ?_
  · intro hc1
    have hc1 : (i : Int) < (s.length : Int) := of_decide_eq_true hc1
    refine At.skip ?_
    refine At.seq ?_
    refine At.block ?_
    refine At.seq ?_
    refine At.region ?_
    refine AtL.move (.inl rfl) rfl rfl ?_
    refine AtL.move (.inl rfl) rfl rfl ?_
    refine AtL.indexS (l := s) i rfl (by omega) Tryd.underlying9 (.inl rfl) rfl rfl rfl ?_
    refine AtL.call tf_body93 (.inl rfl) rfl rfl (number_ok (s.getD i 0)) ?_
    rintro _ _ ⟨rfl, rfl⟩
    refine AtL.lss (.inl rfl) rfl rfl rfl ?_
    refine AtL.done ?_
    refine At.cond rfl ?_ ?_
    · intro hc2
      have hc2 : (numI (s.getD i 0) : Int) < 0 := of_decide_eq_true hc2
      refine At.seq ?_
      refine At.region ?_
      refine AtL.move (.inl rfl) rfl rfl ?_
      refine AtL.build (cs := [.int .i64 4, .int .i64 (i : Int)]) tf_lay81 (.inl rfl) rfl rfl rfl ?_
      refine AtL.assign (.inl rfl) rfl rfl ?_
      refine AtL.store (H' := [(b1, .cells #[.int .i64 4, .int .i64 (i : Int)] 81 (0, 0))] :: H) 0 0 tf_sz81 (.inl rfl) rfl rfl rfl rfl rfl rfl rfl rfl rfl ?_
      refine AtL.done ?_
      refine At.nil ?_
      have hd2 := decB_bad (k := i) (by omega) ((numI_neg (s.getD i 0)).1 hc2)
      exact At.retMP (vs := [.slice none 0 0, .agg #[.int .i64 4, .int .i64 (i : Int)]]) (H2 := [] :: H) [0] 2 rfl rfl Tryd.func53 rfl ⟨rfl, ⟨_, rfl, LoadsTo.agg (cs := [.int .i64 4, .int .i64 (i : Int)]) tf_agg81 rfl (cellsOwn 1 0 0 rfl rfl rfl)⟩, trivial⟩ (⟨Sl.nil, _, by rw [hd2]; rfl, by rw [hd2]; rfl, rfl⟩)
    · intro hc2
      have hc2 : ¬ ((numI (s.getD i 0) : Int) < 0) := of_decide_eq_false hc2
      refine At.skip ?_
      refine At.inBlock ?_
      refine At.region ?_
      refine AtL.move (.inl rfl) rfl rfl ?_
      refine AtL.add (z := (i : Int) + 1) (.inl rfl) rfl rfl rfl (w64 (by omega) (by omega)) ?_
      refine AtL.assign (.inl rfl) rfl rfl ?_
      refine AtL.done ?_
      refine ihL1 (i + 1) (⟨by omega, take_all (by omega) hall (by rcases Nat.lt_or_ge (num64 (s.getD i 0)) 64 with h1 | h1; exact h1; exact absurd ((numI_neg _).2 h1) hc2)⟩) (by omega) _ ?_
      exact ⟨rfl, rfl, (by first | rfl | exact slLen (by simp []) | exact intEq (by omega) | exact intEq (by simp []) | exact slLen (by simp []; omega)), trivial⟩
  · intro hc1
    have hc1 : ¬ ((i : Int) < (s.length : Int)) := of_decide_eq_false hc1
    rw [List.take_of_length_le (by omega)] at hall
    refine At.exit rfl ?_
    refine At.seq ?_
    refine At.region ?_
    refine AtL.move (.inl rfl) rfl rfl ?_
    refine AtL.lenS (l := s) Tryd.underlying9 (.inl rfl) rfl rfl ?_
    refine AtL.call tf_body94 (.inl rfl) rfl rfl (rsize_ok s.length (by omega)) ?_
    rintro _ _ ⟨rfl, rfl⟩
    refine AtL.move (.inl rfl) rfl rfl ?_
    refine AtL.extract (.inl rfl) rfl rfl rfl ?_
    refine AtL.extract (.inl rfl) rfl rfl rfl ?_
    refine AtL.assign (.inl rfl) rfl rfl ?_
    refine AtL.assign (.inl rfl) rfl rfl ?_
    refine AtL.done ?_
    refine At.seq ?_
    refine At.seq ?_
    refine At.region ?_
    refine AtL.move (.inl rfl) rfl rfl ?_
    refine AtL.not (.inl rfl) rfl rfl ?_
    refine AtL.done ?_
    refine At.cond rfl ?_ ?_
    · intro hc3
      have hc3 : ¬ (s.length % 4 ≠ 1) := of_decide_eq_false (bnot_true hc3)
      refine At.seq ?_
      refine At.region ?_
      refine AtL.move (.inl rfl) rfl rfl ?_
      refine AtL.lenS (l := s) Tryd.underlying9 (.inl rfl) rfl rfl ?_
      refine AtL.build (cs := [.int .i64 4, .int .i64 (s.length : Int)]) tf_lay81 (.inl rfl) rfl rfl rfl ?_
      refine AtL.assign (.inl rfl) rfl rfl ?_
      refine AtL.store (H' := [(b1, .cells #[.int .i64 4, .int .i64 (s.length : Int)] 81 (0, 0))] :: H) 0 0 tf_sz81 (.inl rfl) rfl rfl rfl rfl rfl rfl rfl rfl rfl ?_
      refine AtL.done ?_
      refine At.nil ?_
      have hd2 := dec_len (s := s) (by simpa using hc3)
      exact At.retMP (vs := [.slice none 0 0, .agg #[.int .i64 4, .int .i64 (s.length : Int)]]) (H2 := [] :: H) [0] 2 rfl rfl Tryd.func53 rfl ⟨rfl, ⟨_, rfl, LoadsTo.agg (cs := [.int .i64 4, .int .i64 (s.length : Int)]) tf_agg81 rfl (cellsOwn 1 0 0 rfl rfl rfl)⟩, trivial⟩ (⟨Sl.nil, _, by rw [hd2]; rfl, by rw [hd2]; rfl, rfl⟩)
    · intro hc3
      have hc3 : s.length % 4 ≠ 1 := of_decide_eq_true (bnot_false hc3)
      have h41 : ¬ s.length % 4 = 1 := by simpa using hc3
      rw [if_neg h41]
      obtain ⟨n, hn⟩ : ∃ n : Nat, n = (6 * s.length / 8) := ⟨_, rfl⟩
      rw [← hn]
      refine At.skip ?_
      refine At.seq ?_
      refine At.region ?_
      refine AtL.move (.inl rfl) rfl rfl ?_
      refine AtL.makeSlice (n := n) (c := n) tf_el25 (by decide) (.inl rfl) rfl rfl rfl (by omega) (by omega) ?_
      intro A2 s3 o4 q5
      refine AtL.assign (.inl rfl) rfl rfl ?_
      refine AtL.done ?_
      refine At.seq ?_
      refine At.seq ?_
      refine At.region ?_
      refine AtL.assign (.inl rfl) rfl rfl ?_
      refine AtL.done ?_
      refine At.block ?_
      refine At.loop3 (fun (i : Nat) (L : List UInt8) (sL : Seg) => [(0, str s), (3, .pointer (some ⟨b1, 0, none⟩)), (5, .int .i64 (n : Int)), (7, .slice A2 L.length n), (8, .int .i64 (i : Int))]) (fun (i : Nat) (L : List UInt8) (sL : Seg) => sL :: [(b1, .cells #[.int .i64 0, .int .i64 0] 81 (0, 0))] :: H) (fun (i : Nat) (L : List UInt8) (sL : Seg) => i ≤ 6 * s.length ∧ L.length = n ∧ Own tyB 5 A2 n L sL ∧ (i ≤ 8 * n → bits8 L = (bitsS s).take i ++ List.replicate (8 * n - i) false) ∧ (8 * n ≤ i → bits8 L = (bitsS s).take (8 * n) ∧ ∀ j, 8 * n ≤ j → j < i → (bitsS s).getD j false = false)) (fun (i : Nat) (L : List UInt8) (sL : Seg) => 6 * s.length - i) 0 (List.replicate n (0 : UInt8)) s3 (⟨Nat.zero_le _, by rw [List.length_replicate], o4, fun _ => dec_start s n, fun h8 => ⟨by rw [show n = 0 by omega]; rfl, fun j h1 h2 => absurd h2 (by omega)⟩⟩) ⟨rfl, rfl, rfl, rfl, rfl, trivial⟩ rfl ?_
      rintro i L sL ⟨hi, hOl, ho, hO1, hO2⟩ ihL2
      have hcapL := Own.cap_le ho
      have hleL := Own.le_cap ho
      refine At.seq ?_
      refine At.seq ?_
      refine At.region ?_
      refine AtL.move (.inl rfl) rfl rfl ?_
      refine AtL.move (.inl rfl) rfl rfl ?_
      refine AtL.lenS (l := s) Tryd.underlying9 (.inl rfl) rfl rfl ?_
      refine AtL.mul (z := 6 * (s.length : Int)) (.inl rfl) rfl rfl rfl (w64 (by omega) (by omega)) ?_
      refine AtL.lss (.inl rfl) rfl rfl rfl ?_
      refine AtL.done ?_
      refine At.cond rfl ?_ ?_
      · intro hc4
        have hc4 : (i : Int) < (6 * (s.length : Int)) := of_decide_eq_true hc4
        have hci : num64 (s.getD (i / 6) 0) < 64 := of_decide_eq_true (List.all_eq_true.1 hall _ (getD_mem (l := s) (i := i / 6) (d := 0) (by omega)))
        have hnI : numI (s.getD (i / 6) 0) = (num64 (s.getD (i / 6) 0) : Int) := by rw [numI, if_pos hci]
        have hbg := bitsS_get (s := s) (i := i) (by omega)
        have hx2 : ((bitsS s).getD i false).toNat < 2 := by cases (bitsS s).getD i false <;> decide
        have hxb : num64 (s.getD (i / 6) 0) / 2 ^ (5 - i % 6) % 2 = ((bitsS s).getD i false).toNat := by rw [hbg, bit_val hci]
        refine At.skip ?_
        refine At.seq ?_
        refine At.block ?_
        refine At.seq ?_
        refine At.region ?_
        refine AtL.move (.inl rfl) rfl rfl ?_
        refine AtL.move (.inl rfl) rfl rfl ?_
        refine AtL.quo (z := (i : Int) / 6) (.inl rfl) rfl rfl rfl (by omega) (quo_eq (by omega) (by omega) (by omega)) ?_
        refine AtL.indexS (l := s) (i / 6) rfl (by omega) Tryd.underlying9 (.inl rfl) rfl rfl rfl ?_
        refine AtL.call tf_body93 (.inl rfl) rfl rfl (number_ok (s.getD (i / 6) 0)) ?_
        rintro _ _ ⟨rfl, rfl⟩
        refine AtL.move (.inl rfl) rfl rfl ?_
        refine AtL.rem (z := (i : Int) % 6) (.inl rfl) rfl rfl rfl (by omega) (rem_eq (by omega)) ?_
        refine AtL.sub (z := ((5 - i % 6 : Nat) : Int)) (.inl rfl) rfl rfl rfl (by rw [show (5 : Int) - (i : Int) % 6 = ((5 - i % 6 : Nat) : Int) by omega]; exact w64 (by omega) (by omega)) ?_
        refine AtL.shr (z := ((num64 (s.getD (i / 6) 0) / 2 ^ (5 - i % 6) : Nat) : Int)) (.inl rfl) rfl rfl rfl (by omega) (by rw [hnI]; exact shrN (by omega)) ?_
        refine AtL.rem (z := (((bitsS s).getD i false).toNat : Int)) (.inl rfl) rfl rfl rfl (by omega) (by rw [← hxb, Int.natCast_emod]; exact rem_eq (Int.natCast_nonneg _)) ?_
        refine AtL.assign (.inl rfl) rfl rfl ?_
        refine AtL.done ?_
        refine At.seq ?_
        refine At.region ?_
        refine AtL.move (.inl rfl) rfl rfl ?_
        refine AtL.move (.inl rfl) rfl rfl ?_
        refine AtL.mul (z := 8 * (n : Int)) (.inl rfl) rfl rfl rfl (w64 (by omega) (by omega)) ?_
        refine AtL.lss (.inl rfl) rfl rfl rfl ?_
        refine AtL.done ?_
        refine At.cond rfl ?_ ?_
        · intro hc5
          have hc5 : (i : Int) < (8 * (n : Int)) := of_decide_eq_true hc5
          refine At.draw (es := [16]) (pv := [(0, .slice A2 L.length n), (1, .int .i64 (i : Int)), (2, .int .i64 ((i : Int) / 8)), (3, .slice A2 L.length n), (4, .int .i64 (i : Int)), (5, .int .i64 ((i : Int) / 8)), (6, .pointer (some (eaddr A2 ((i / 8) * tyB.sz)))), (7, .int .u8 ((L.getD (i / 8) 0).toNat : Int)), (8, .int .i64 (((bitsS s).getD i false).toNat : Int)), (9, .int .u8 ((UInt8.ofNat ((bitsS s).getD i false).toNat).toNat : Int)), (10, .int .i64 (i : Int)), (11, .int .i64 ((i : Int) % 8)), (12, .int .i64 ((7 - i % 8 : Nat) : Int)), (13, .int .u8 ((UInt8.ofNat (((bitsS s).getD i false).toNat * 2 ^ (7 - i % 8))).toNat : Int)), (14, .int .u8 ((L.getD (i / 8) 0 ||| UInt8.ofNat (((bitsS s).getD i false).toNat * 2 ^ (7 - i % 8))).toNat : Int)), (15, .pointer (some (eaddr A2 ((i / 8) * tyB.sz))))]) tf_mixed (by kernel_rfl) (by kernel_rfl) (by kernel_rfl) ?_
          refine ⟨⟨.inr ⟨_, rfl, rfl, .inl ⟨rfl, Do.move rfl⟩⟩, .inr ⟨_, rfl, rfl, .inl ⟨rfl, Do.move rfl⟩⟩, .inr ⟨_, rfl, rfl, .inl ⟨rfl, Do.quo (z := (i : Int) / 8) rfl rfl (by omega) (quo_eq (by omega) (by omega) (by omega))⟩⟩, .inr ⟨_, rfl, rfl, .inl ⟨rfl, Do.move rfl⟩⟩, .inr ⟨_, rfl, rfl, .inl ⟨rfl, Do.move rfl⟩⟩, .inr ⟨_, rfl, rfl, .inl ⟨rfl, Do.quo (z := (i : Int) / 8) rfl rfl (by omega) (quo_eq (by omega) (by omega) (by omega))⟩⟩, .inr ⟨_, rfl, rfl, .inl ⟨rfl, Do.indexL (i / 8) (ho.rd (i := 0) rfl) Tryd.underlying25 tf_sz5 rfl rfl rfl (by omega)⟩⟩, .inr ⟨_, rfl, rfl, .inl ⟨rfl, Do.load (v := .int .u8 ((L.getD (i / 8) 0).toNat : Int)) tf_flat5 rfl (Rd.cell0 (ho.rd (i := 0) rfl) (getD_some 0 (by omega)) rfl)⟩⟩, .inr ⟨_, rfl, rfl, .inl ⟨rfl, Do.move rfl⟩⟩, .inr ⟨_, rfl, rfl, .inl ⟨rfl, Do.convInt (z := ((UInt8.ofNat ((bitsS s).getD i false).toNat).toNat : Int)) Tryd.underlying3 Tryd.underlying5 rfl (u8_nat _)⟩⟩, .inr ⟨_, rfl, rfl, .inl ⟨rfl, Do.move rfl⟩⟩, .inr ⟨_, rfl, rfl, .inl ⟨rfl, Do.rem (z := (i : Int) % 8) rfl rfl (by omega) (rem_eq (by omega))⟩⟩, .inr ⟨_, rfl, rfl, .inl ⟨rfl, Do.sub (z := ((7 - i % 8 : Nat) : Int)) rfl rfl (by rw [show (7 : Int) - (i : Int) % 8 = ((7 - i % 8 : Nat) : Int) by omega]; exact w64 (by omega) (by omega))⟩⟩, .inr ⟨_, rfl, rfl, .inl ⟨rfl, Do.shl (z := ((UInt8.ofNat (((bitsS s).getD i false).toNat * 2 ^ (7 - i % 8))).toNat : Int)) rfl rfl (by omega) (shl8N hx2 (by omega))⟩⟩, .inr ⟨_, rfl, rfl, .inl ⟨rfl, Do.bor (z := ((L.getD (i / 8) 0 ||| UInt8.ofNat (((bitsS s).getD i false).toNat * 2 ^ (7 - i % 8))).toNat : Int)) rfl rfl (or8 _ _)⟩⟩, .inr ⟨_, rfl, rfl, .inl ⟨rfl, Do.indexL (i / 8) (ho.rd (i := 0) rfl) Tryd.underlying25 tf_sz5 rfl rfl rfl (by omega)⟩⟩, trivial⟩, rfl, rfl, by kernel_rfl, _, rfl, rfl, rfl, _, Do.setIdx (u := (L.getD (i / 8) 0 ||| UInt8.ofNat (((bitsS s).getD i false).toNat * 2 ^ (7 - i % 8)))) 0 (i / 8) tf_sz5 rfl ho (by omega) rfl rfl, ?_⟩
          rintro _ _ ⟨s6, o7, rfl, rfl⟩
          refine ⟨[], rfl, ?_⟩
          refine ⟨⟨.inl (by kernel_rfl), .inl (by kernel_rfl), .inl (by kernel_rfl), .inl (by kernel_rfl), .inl (by kernel_rfl), .inl (by kernel_rfl), .inl (by kernel_rfl), .inl (by kernel_rfl), .inl (by kernel_rfl), .inl (by kernel_rfl), .inl (by kernel_rfl), .inl (by kernel_rfl), .inl (by kernel_rfl), .inl (by kernel_rfl), .inl (by kernel_rfl), .inl (by kernel_rfl), trivial⟩, by kernel_rfl, ?_⟩
          refine At.mono (E' := [(0, str s), (3, .pointer (some ⟨b1, 0, none⟩)), (5, .int .i64 (n : Int)), (7, .slice A2 (L.set (i / 8) (L.getD (i / 8) 0 ||| UInt8.ofNat (((bitsS s).getD i false).toNat * 2 ^ (7 - i % 8)))).length n), (8, .int .i64 (i : Int))]) ⟨rfl, rfl, rfl, (by rw [show (L.set (i / 8) (L.getD (i / 8) 0 ||| UInt8.ofNat (((bitsS s).getD i false).toNat * 2 ^ (7 - i % 8)))).length = L.length from (List.length_set)]; rfl), rfl, trivial⟩ ?_
          refine At.inBlock ?_
          refine At.region ?_
          refine AtL.move (.inl rfl) rfl rfl ?_
          refine AtL.add (z := (i : Int) + 1) (.inl rfl) rfl rfl rfl (w64 (by omega) (by omega)) ?_
          refine AtL.assign (.inl rfl) rfl rfl ?_
          refine AtL.done ?_
          refine ihL2 (i + 1) (L.set (i / 8) (L.getD (i / 8) 0 ||| UInt8.ofNat (((bitsS s).getD i false).toNat * 2 ^ (7 - i % 8)))) s6 (⟨by omega, by rw [List.length_set]; exact hOl, o7, fun hi8 => dec_set hOl (by omega) (by omega) rfl (hO1 (by omega)), fun hi8 => by have := dec_set hOl (by omega) (by omega) rfl (hO1 (by omega)); rw [show 8 * n - (i + 1) = 0 by omega, List.replicate_zero, List.append_nil, show i + 1 = 8 * n by omega] at this; exact ⟨this, fun j h1 h2 => absurd h2 (by omega)⟩⟩) (by omega) _ ?_
          exact ⟨rfl, rfl, rfl, (by first | rfl | exact slLen (by simp []) | exact intEq (by omega) | exact intEq (by simp []) | exact slLen (by simp []; omega)), (by first | rfl | exact slLen (by simp []) | exact intEq (by omega) | exact intEq (by simp []) | exact slLen (by simp []; omega)), trivial⟩
        · intro hc5
          have hc5 : ¬ ((i : Int) < (8 * (n : Int))) := of_decide_eq_false hc5
          refine At.seq ?_
          refine At.region ?_
          refine AtL.move (.inl rfl) rfl rfl ?_
          refine AtL.nei (.inl rfl) rfl rfl rfl ?_
          refine AtL.done ?_
          refine At.cond rfl ?_ ?_
          · intro hc6
            have hc6 : ¬ ((((bitsS s).getD i false).toNat : Int) = 0) := of_decide_eq_false (bnot_true hc6)
            refine At.seq ?_
            refine At.region ?_
            refine AtL.move (.inl rfl) rfl rfl ?_
            refine AtL.lenS (l := s) Tryd.underlying9 (.inl rfl) rfl rfl ?_
            refine AtL.sub (z := (s.length : Int) - 1) (.inl rfl) rfl rfl rfl (w64 (by omega) (by omega)) ?_
            refine AtL.build (cs := [.int .i64 4, .int .i64 ((s.length : Int) - 1)]) tf_lay81 (.inl rfl) rfl rfl rfl ?_
            refine AtL.assign (.inl rfl) rfl rfl ?_
            refine AtL.store (H' := sL :: [(b1, .cells #[.int .i64 4, .int .i64 ((s.length : Int) - 1)] 81 (0, 0))] :: H) 1 0 tf_sz81 (.inl rfl) rfl rfl rfl rfl rfl rfl rfl rfl rfl ?_
            refine AtL.done ?_
            refine At.nil ?_
            have hd2 := dec_one (i := i) hn (by omega) (by omega) (by cases hb : (bitsS s).getD i false with | true => rfl | false => rw [hb] at hc6; exact absurd rfl hc6)
            exact At.retMP (vs := [.slice none 0 0, .agg #[.int .i64 4, .int .i64 ((s.length : Int) - 1)]]) (H2 := [] :: H) [0] 3 rfl rfl Tryd.func53 rfl ⟨rfl, ⟨_, rfl, LoadsTo.agg (cs := [.int .i64 4, .int .i64 ((s.length : Int) - 1)]) tf_agg81 rfl (cellsOwn 2 0 0 rfl rfl rfl)⟩, trivial⟩ (⟨Sl.nil, _, by rw [hd2]; rfl, by rw [hd2]; rfl, rfl⟩)
          · intro hc6
            have hc6 : (((bitsS s).getD i false).toNat : Int) = 0 := of_decide_eq_true (bnot_false hc6)
            refine At.skip ?_
            refine At.inBlock ?_
            refine At.region ?_
            refine AtL.move (.inl rfl) rfl rfl ?_
            refine AtL.add (z := (i : Int) + 1) (.inl rfl) rfl rfl rfl (w64 (by omega) (by omega)) ?_
            refine AtL.assign (.inl rfl) rfl rfl ?_
            refine AtL.done ?_
            refine ihL2 (i + 1) L sL (⟨by omega, hOl, ho, fun hi8 => absurd hi8 (by omega), fun hi8 => ⟨(hO2 (by omega)).1, fun j h1 h2 => by rcases Nat.lt_or_ge j i with h3 | h3; exact (hO2 (by omega)).2 j h1 h3; obtain rfl : j = i := (by omega); cases hb : (bitsS s).getD j false with | false => rfl | true => rw [hb] at hc6; exact absurd hc6 (by decide)⟩⟩) (by omega) _ ?_
            exact ⟨rfl, rfl, rfl, (by first | rfl | exact slLen (by simp []) | exact intEq (by omega) | exact intEq (by simp []) | exact slLen (by simp []; omega)), (by first | rfl | exact slLen (by simp []) | exact intEq (by omega) | exact intEq (by simp []) | exact slLen (by simp []; omega)), trivial⟩
      · intro hc4
        have hc4 : ¬ ((i : Int) < (6 * (s.length : Int))) := of_decide_eq_false hc4
        refine At.exit rfl ?_
        refine At.seq ?_
        refine At.region ?_
        refine AtL.move (.inl rfl) rfl rfl ?_
        refine AtL.build (cs := [.int .i64 0, .int .i64 0]) tf_lay81 (.inl rfl) rfl rfl rfl ?_
        refine AtL.assign (.inl rfl) rfl rfl ?_
        refine AtL.store (H' := sL :: [(b1, .cells #[.int .i64 0, .int .i64 0] 81 (0, 0))] :: H) 1 0 tf_sz81 (.inl rfl) rfl rfl rfl rfl rfl rfl rfl rfl rfl ?_
        refine AtL.done ?_
        have hd2 := dec_end hall hn h41 (hO2 (by omega)).1 (fun j h1 h2 => (hO2 (by omega)).2 j h1 (by omega))
        exact At.retMP (vs := [.slice A2 L.length n, .agg #[.int .i64 0, .int .i64 0]]) (H2 := sL :: H) [0] 2 rfl rfl Tryd.func53 rfl ⟨rfl, ⟨_, rfl, LoadsTo.agg (cs := [.int .i64 0, .int .i64 0]) tf_agg81 rfl (cellsOwn 1 0 0 rfl rfl rfl)⟩, trivial⟩ (⟨⟨A2, n, L, sL, ho⟩, _, by rw [hd2]; rfl, by rw [hd2]; rfl, rfl⟩)

end Go.Proofs.YtlfkoimkojbghaaDoor
