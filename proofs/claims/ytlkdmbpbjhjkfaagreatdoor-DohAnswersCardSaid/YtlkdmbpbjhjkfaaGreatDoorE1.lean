/- Bytes as letters: the plain law, numbers, bits. -/
import Derived.Test.YtlkdmbpbjhjkfaaGreatDoorT6
import Derived.Test.YtlkdmbpbjhjkfaaGreatDoorLgU
import Derived.Test.YtlkdmbpbjhjkfaaGreatDoorLgX
namespace Go.Proofs.YtlkdmbpbjhjkfaaGreatDoor
set_option linter.unusedVariables false
set_option linter.unusedSimpArgs false
set_option maxRecDepth 100000

/-- Bits, the highest first. -/
def bv (l : List Bool) : Nat := l.foldl (fun a b => 2 * a + b.toNat) 0
theorem bv_acc (l : List Bool) (a : Nat) : l.foldl (fun a b => 2 * a + b.toNat) a = a * 2 ^ l.length + bv l := by
  induction l generalizing a with
  | nil => simp [bv]
  | cons b l ih =>
    have h1 := ih (2 * a + b.toNat)
    have h2 := ih (2 * 0 + b.toNat)
    show l.foldl (fun a b => 2 * a + b.toNat) (2 * a + b.toNat) = a * 2 ^ (l.length + 1) + l.foldl (fun a b => 2 * a + b.toNat) (2 * 0 + b.toNat)
    have e : (2 * a + b.toNat) * 2 ^ l.length = a * (2 ^ l.length * 2) + b.toNat * 2 ^ l.length := by
      rw [Nat.add_mul, Nat.mul_comm 2 a, Nat.mul_assoc a 2, Nat.mul_comm 2 (2 ^ l.length)]
    rw [h1, h2, Nat.pow_succ, e]; simp only [Nat.mul_zero, Nat.zero_add]; omega
theorem bv_app (a b : List Bool) : bv (a ++ b) = bv a * 2 ^ b.length + bv b := by
  rw [bv, List.foldl_append, bv_acc]; rfl
theorem bv_lt (l : List Bool) : bv l < 2 ^ l.length := by
  induction l with
  | nil => simp [bv]
  | cons b l ih =>
    have e : b :: l = [b] ++ l := rfl
    rw [e, bv_app, List.length_append, Nat.pow_add]
    have h1 : bv [b] ≤ 1 := by cases b <;> decide
    have h2 : bv [b] * 2 ^ l.length ≤ 1 * 2 ^ l.length := Nat.mul_le_mul_right _ h1
    simp only [List.length_cons, List.length_nil]; omega
theorem bv_div (p q : List Bool) : bv (p ++ q) / 2 ^ q.length = bv p := by
  rw [bv_app, Nat.mul_comm, Nat.mul_add_div (Nat.two_pow_pos _), Nat.div_eq_of_lt (bv_lt q), Nat.add_zero]
theorem bv_mod (p q : List Bool) : bv (p ++ q) % 2 ^ q.length = bv q := by
  rw [bv_app, Nat.mul_comm, Nat.mul_add_mod, Nat.mod_eq_of_lt (bv_lt q)]
theorem bv_inj : ∀ {a b : List Bool}, a.length = b.length → bv a = bv b → a = b
  | [], [], _, _ => rfl
  | x :: a, y :: b, hl, h => by
    have hl2 : a.length = b.length := by simpa using hl
    have e1 : x :: a = [x] ++ a := rfl
    have e2 : y :: b = [y] ++ b := rfl
    have h1 := bv_mod [x] a
    have h2 := bv_mod [y] b
    have d1 := bv_div [x] a
    have d2 := bv_div [y] b
    rw [← e1] at h1 d1
    rw [← e2] at h2 d2
    rw [h, hl2] at h1 d1
    have ha := bv_inj hl2 (h1.symm.trans h2)
    have hx : bv [x] = bv [y] := d1.symm.trans d2
    have : x = y := by cases x <;> cases y <;> first | rfl | cases hx
    rw [this, ha]
def b6 (n : Nat) : List Bool := [n.testBit 5, n.testBit 4, n.testBit 3, n.testBit 2, n.testBit 1, n.testBit 0]
def b8 (c : UInt8) : List Bool := [c.toNat.testBit 7, c.toNat.testBit 6, c.toNat.testBit 5, c.toNat.testBit 4, c.toNat.testBit 3, c.toNat.testBit 2, c.toNat.testBit 1, c.toNat.testBit 0]
theorem bv_b6 {n : Nat} (h : n < 64) : bv (b6 n) = n := (by decide +kernel : ∀ n : Fin 64, bv (b6 n.val) = n.val) ⟨n, h⟩
theorem bv_b8 (c : UInt8) : bv (b8 c) = c.toNat := by
  have h := (by decide +kernel : ∀ n : Fin 256, bv (b8 (UInt8.ofNat n.val)) = n.val) ⟨c.toNat, c.toNat_lt⟩
  simpa using h
theorem b6_len (n : Nat) : (b6 n).length = 6 := rfl
theorem b8_len (c : UInt8) : (b8 c).length = 8 := rfl
theorem bv_256 {l : List Bool} (h : l.length = 8) : bv l < 256 := by have := bv_lt l; rw [h] at this; exact this
theorem bv_64 {l : List Bool} (h : l.length = 6) : bv l < 64 := by have := bv_lt l; rw [h] at this; exact this
theorem b8_bv {l : List Bool} (h : l.length = 8) : b8 (UInt8.ofNat (bv l)) = l := by
  have h2 := bv_256 h
  refine bv_inj (by rw [b8_len, h]) ?_
  rw [bv_b8]
  simp; omega
theorem b6_bv {l : List Bool} (h : l.length = 6) : b6 (bv l) = l := bv_inj (by rw [b6_len, h]) (bv_b6 (bv_64 h))
def letB : List UInt8 := [65, 66, 67, 68, 69, 70, 71, 72, 73, 74, 75, 76, 77, 78, 79, 80, 81, 82, 83, 84, 85, 86, 87, 88, 89, 90, 97, 98, 99, 100, 101, 102, 103, 104, 105, 106, 107, 108, 109, 110, 111, 112, 113, 114, 115, 116, 117, 118, 119, 120, 121, 122, 48, 49, 50, 51, 52, 53, 54, 55, 56, 57, 45, 95]
theorem letB_len : letB.length = 64 := rfl
/-- A letter's number; 64 and more: it is none. -/
def num64 (c : UInt8) : Nat := letB.idxOf c
def numB (c : UInt8) : UInt8 := if num64 c < 64 then UInt8.ofNat (num64 c) else 255
theorem let_num {n : Nat} (h : n < 64) : num64 (letB.getD n 0) = n := (by decide +kernel : ∀ n : Fin 64, num64 (letB.getD n.val 0) = n.val) ⟨n, h⟩
theorem num_let {c : UInt8} (h : num64 c < 64) : letB.getD (num64 c) 0 = c := by
  have h1 : letB.idxOf c < letB.length := h
  have h2 := List.getElem_idxOf h1
  simp only [num64, List.getD, List.getElem?_eq_getElem h1, Option.getD_some]
  exact h2
def fillF (j : Nat) : List UInt8 := (List.range 256).map fun n => if num64 (UInt8.ofNat n) < j then UInt8.ofNat (num64 (UInt8.ofNat n)) else 255
theorem fillF_len (j : Nat) : (fillF j).length = 256 := by simp [fillF]
theorem fillF_step {j : Nat} (hj : j < 64) : (fillF j).set (letB.getD j 0).toNat (UInt8.ofNat j) = fillF (j + 1) := by
  apply List.ext_getElem (by simp [fillF])
  intro n h1 h2
  have hn : n < 256 := by simpa [fillF] using h2
  rw [List.getElem_set]
  simp only [fillF, List.getElem_map, List.getElem_range]
  by_cases h : (letB.getD j 0).toNat = n
  · have e : UInt8.ofNat n = letB.getD j 0 := by rw [← h]; simp
    rw [if_pos h, e, let_num hj, if_pos (by omega)]
  · rw [if_neg h]
    have h3 : ¬ num64 (UInt8.ofNat n) = j := fun e => h (by
      have := num_let (c := UInt8.ofNat n) (by omega)
      rw [e] at this
      rw [this]; simp; omega)
    by_cases h4 : num64 (UInt8.ofNat n) < j
    · rw [if_pos h4, if_pos (by omega)]
    · rw [if_neg h4, if_neg (by omega)]
theorem fillF_zero : List.replicate 256 255 = fillF 0 := by
  unfold fillF
  apply List.ext_getElem (by rw [List.length_replicate, List.length_map, List.length_range])
  intro n h1 h2
  rw [List.getElem_replicate, List.getElem_map, if_neg (Nat.not_lt_zero _)]
theorem fillF_get (c : UInt8) : (fillF 64).getD c.toNat 0 = numB c := by
  have h := c.toNat_lt
  simp only [fillF, List.getD, List.getElem?_map, List.getElem?_range h, Option.map_some, Option.getD_some, UInt8.ofNat_toNat]
  rfl
theorem numB_no (c : UInt8) : numB c = 255 ↔ 64 ≤ num64 c := by
  unfold numB
  by_cases h : num64 c < 64
  · rw [if_pos h]
    constructor
    · intro e
      have := congrArg UInt8.toNat e
      simp at this; omega
    · intro h2; omega
  · rw [if_neg h]; exact ⟨fun _ => by omega, fun _ => rfl⟩
theorem numB_yes {c : UInt8} (h : num64 c < 64) : (numB c).toNat = num64 c := by
  rw [numB, if_pos h]; simp; omega
/-- The bits of letters; the bits of bytes. -/
def bitsS (s : List UInt8) : List Bool := s.flatMap fun c => b6 (num64 c)
def bits8 (l : List UInt8) : List Bool := l.flatMap b8
theorem bitsS_len (s : List UInt8) : (bitsS s).length = 6 * s.length := by
  induction s with
  | nil => rfl
  | cons c s ih => simp only [bitsS, List.flatMap_cons, List.length_append, b6_len, List.length_cons] at ih ⊢; omega
theorem bits8_len (s : List UInt8) : (bits8 s).length = 8 * s.length := by
  induction s with
  | nil => rfl
  | cons c s ih => simp only [bits8, List.flatMap_cons, List.length_append, b8_len, List.length_cons] at ih ⊢; omega
theorem bitsS_app (a b : List UInt8) : bitsS (a ++ b) = bitsS a ++ bitsS b := by simp [bitsS]
theorem bits8_app (a b : List UInt8) : bits8 (a ++ b) = bits8 a ++ bits8 b := by simp [bits8]
theorem bits8_inj : ∀ {a b : List UInt8}, bits8 a = bits8 b → a = b
  | [], [], _ => rfl
  | [], y :: b, h => by have := congrArg List.length h; simp only [bits8_len, List.length_cons, List.length_nil] at this; omega
  | x :: a, [], h => by have := congrArg List.length h; simp only [bits8_len, List.length_cons, List.length_nil] at this; omega
  | x :: a, y :: b, h => by
    have h2 : b8 x ++ bits8 a = b8 y ++ bits8 b := h
    obtain ⟨h3, h4⟩ := List.append_inj h2 rfl
    have h5 : x.toNat = y.toNat := by rw [← bv_b8, ← bv_b8, h3]
    rw [UInt8.toNat_inj.1 h5, bits8_inj h4]
/-- P11.2: the bytes of a text, if it is one. -/
def decB (s : List UInt8) : Option (List UInt8) :=
  if (s.all fun c => decide (num64 c < 64)) = true ∧ s.length % 4 ≠ 1 ∧ ((bitsS s).drop (8 * (6 * s.length / 8))).any id = false then some ((List.range (6 * s.length / 8)).map fun j => UInt8.ofNat (bv (((bitsS s).drop (8 * j)).take 8))) else none
theorem bits_of (B : List Bool) (n : Nat) (h : 8 * n ≤ B.length) : bits8 ((List.range n).map fun j => UInt8.ofNat (bv ((B.drop (8 * j)).take 8))) = B.take (8 * n) := by
  induction n with
  | zero => simp [bits8]
  | succ n ih =>
    rw [List.range_succ, List.map_append, bits8_app, ih (by omega)]
    have e : ((B.drop (8 * n)).take 8).length = 8 := by rw [List.length_take, List.length_drop]; omega
    simp only [List.map_cons, List.map_nil, bits8, List.flatMap_cons, List.flatMap_nil, List.append_nil]
    rw [b8_bv e, show 8 * (n + 1) = 8 * n + 8 by omega, List.take_add]
/-- What tells the bytes. -/
theorem decB_of {s out : List UInt8} {p : List Bool} (hs : (s.all fun c => decide (num64 c < 64)) = true) (hp : p.length < 8) (h : bits8 out ++ p = bitsS s) : decB s = if s.length % 4 = 1 ∨ p.any id = true then none else some out := by
  have hl := congrArg List.length h
  rw [List.length_append, bits8_len, bitsS_len] at hl
  have hn : 6 * s.length / 8 = out.length := by omega
  have hd : (bitsS s).drop (8 * out.length) = p := by rw [← h, ← bits8_len out, List.drop_left]
  have ho : (List.range out.length).map (fun j => UInt8.ofNat (bv (((bitsS s).drop (8 * j)).take 8))) = out := by
    apply bits8_inj
    rw [bits_of _ _ (by rw [bitsS_len]; omega), ← h, ← bits8_len out, List.take_left]
  unfold decB
  rw [hn, hd, ho, hs]
  by_cases h1 : s.length % 4 = 1
  · simp [h1]
  · by_cases h2 : p.any id = true
    · rw [if_neg (by rw [h2]; simp), if_pos (.inr h2)]
    · rw [if_pos ⟨rfl, h1, by simpa using h2⟩, if_neg (by rintro (h3 | h3); exact h1 h3; exact h2 h3)]
theorem decB_bad {s : List UInt8} {k : Nat} (hk : k < s.length) (h : 64 ≤ num64 (s.getD k 0)) : decB s = none := by
  unfold decB
  rw [if_neg]
  rintro ⟨h1, _⟩
  have := List.all_eq_true.1 h1 (s.getD k 0) (by simp [List.getD, hk])
  have := of_decide_eq_true this
  omega
theorem bv_zero (p : List Bool) : bv p = 0 ↔ p.any id = false := by
  induction p with
  | nil => simp [bv]
  | cons b p ih =>
    have e : b :: p = [b] ++ p := rfl
    rw [e, bv_app, List.any_append]
    have h2 := Nat.two_pow_pos p.length
    cases b with
    | true =>
      have e3 : bv [true] = 1 := rfl
      rw [e3]; simp
    | false =>
      have e2 : bv [false] = 0 := rfl
      rw [e2]; simpa using ih
/-- P11.1: bytes as a text. -/
def encB (b : List UInt8) : List UInt8 := (List.range ((8 * b.length + 5) / 6)).map fun j => letB.getD (bv (((bits8 b ++ List.replicate 6 false).drop (6 * j)).take 6)) 0
theorem encB_len (b : List UInt8) : (encB b).length = (8 * b.length + 5) / 6 := by simp [encB]

theorem pow62 {k : Nat} (hk : k ≤ 40) : (2 : Nat) ^ k ≤ 1099511627776 := Nat.le_trans (Nat.pow_le_pow_right (by omega) hk) (by decide)
theorem minK {k : Nat} (hk : k ≤ 40) : min ((k : Int)).toNat IntKind.i64.bits = k := by show min ((k : Int)).toNat 64 = k; rw [Int.toNat_natCast]; omega
theorem cast_pow (k : Nat) : (2 : Int) ^ k = ((2 ^ k : Nat) : Int) := by rw [Int.natCast_pow]; rfl
theorem shlN {a k : Nat} (hk : k ≤ 40) (h : a * 2 ^ k ≤ 4611686018427387904) : IntKind.i64.wrap ((a : Int) * 2 ^ (min ((k : Int)).toNat IntKind.i64.bits)) = ((a * 2 ^ k : Nat) : Int) := by
  rw [minK hk, cast_pow, ← Int.natCast_mul]
  exact w64 (by omega) (by omega)
theorem ofInt_nat64 {a : Nat} (h : a ≤ 4611686018427387904) : (BitVec.ofInt IntKind.i64.bits (a : Int)).toNat = a := by
  show (BitVec.ofInt 64 (a : Int)).toNat = a
  rw [BitVec.toNat_ofInt]; omega
theorem orN {a n k : Nat} (hn : n < 2 ^ k) (h : a * 2 ^ k + n ≤ 4611686018427387904) : IntKind.i64.wrap ((BitVec.ofInt IntKind.i64.bits ((a * 2 ^ k : Nat) : Int) ||| BitVec.ofInt IntKind.i64.bits (n : Int)).toNat : Int) = ((a * 2 ^ k + n : Nat) : Int) := by
  rw [BitVec.toNat_or, ofInt_nat64 (by omega), ofInt_nat64 (by omega), ← Nat.shiftLeft_eq, ← Nat.shiftLeft_add_eq_or_of_lt hn, Nat.shiftLeft_eq]
  exact w64 (by omega) (by omega)
theorem shrN {a k : Nat} (hk : k ≤ 40) : ((a : Int)).fdiv (2 ^ (min ((k : Int)).toNat IntKind.i64.bits)) = ((a / 2 ^ k : Nat) : Int) := by
  rw [minK hk, cast_pow, Int.fdiv_eq_ediv_of_nonneg _ (Int.natCast_nonneg _)]
  exact (Int.natCast_ediv a (2 ^ k)).symm
theorem andN {a k : Nat} (h : a ≤ 4611686018427387904) (hk : k ≤ 40) : IntKind.i64.wrap ((BitVec.ofInt IntKind.i64.bits (a : Int) &&& BitVec.ofInt IntKind.i64.bits ((2 ^ k - 1 : Nat) : Int)).toNat : Int) = ((a % 2 ^ k : Nat) : Int) := by
  have hp := pow62 hk
  rw [BitVec.toNat_and, ofInt_nat64 h, ofInt_nat64 (by omega), Nat.and_two_pow_sub_one_eq_mod]
  have := Nat.mod_le a (2 ^ k)
  exact w64 (by omega) (by omega)
theorem u8_nat (k : Nat) : IntKind.u8.wrap (k : Int) = ((UInt8.ofNat k).toNat : Int) := by
  rw [u8_conv, ofInt_nat]
theorem let_dec {k : Nat} (h : k < 64) : Utf8.decode ⟨⟨letB⟩⟩ k = ((letB.getD k 0).toNat, 1) := (by decide +kernel : ∀ k : Fin 64, Utf8.decode ⟨⟨letB⟩⟩ k.val = ((letB.getD k.val 0).toNat, 1)) ⟨k, h⟩

theorem fill_step {k : Nat} (h : k < 256) : (List.replicate k 255 ++ List.replicate (256 - k) (0 : UInt8)).set k 255 = List.replicate (k + 1) 255 ++ List.replicate (256 - (k + 1)) 0 := by
  rw [show 256 - k = (256 - (k + 1)) + 1 by omega, List.replicate_succ, List.set_append_right _ _ (by rw [List.length_replicate]; omega), List.length_replicate, Nat.sub_self, List.set_cons_zero, List.replicate_succ', List.append_assoc]
  rfl
theorem fill_end : List.replicate 256 255 ++ List.replicate (256 - 256) (0 : UInt8) = fillF 0 := by rw [Nat.sub_self, List.replicate_zero, List.append_nil, fillF_zero]

set_option maxHeartbeats 400000 in
theorem numbers_ok {w0 : World} {base : Nat} {H : List Seg}  :
    SCalls Tryz.prog 130 [] w0 base (H) (fun v H' => v = .agg (tyB.cells (fillF 64)).toArray ∧ H' = H) := by
  refine SCalls.of_walk (n := 22) Tryz.func130 rfl rfl rfl fun cs => ?_
  refine At.seq ?_
  refine At.region ?_
  refine AtL.allocArr tyB (l := List.replicate 256 (0 : UInt8)) tf_zero166 tf_zarr166 (by simp) (.inl rfl) rfl ?_
  intro b1 s2 o3
  rw [List.length_replicate] at o3
  refine AtL.done ?_
  refine At.seq ?_
  refine At.region ?_
  refine AtL.allocArr tyB (l := List.replicate 256 (0 : UInt8)) tf_zero166 tf_zarr166 (by simp) (.inl rfl) rfl ?_
  intro b4 s5 o6
  rw [List.length_replicate] at o6
  refine AtL.done ?_
  refine At.seq ?_
  refine At.seq ?_
  refine At.region ?_
  refine AtL.move (.inl rfl) rfl rfl ?_
  refine AtL.done ?_
  refine At.block ?_
  refine At.loop3 (fun (k : Nat) (L : List UInt8) (sL : Seg) => [(0, .pointer (some ⟨b1, 0, none⟩)), (1, .pointer (some ⟨b4, 0, none⟩)), (5, .int .i64 (k : Int))]) (fun (k : Nat) (L : List UInt8) (sL : Seg) => sL :: s2 :: H) (fun (k : Nat) (L : List UInt8) (sL : Seg) => k ≤ 256 ∧ L = List.replicate k 255 ++ List.replicate (256 - k) 0 ∧ Own tyB 166 (some ⟨b4, 0, none⟩) 256 L sL) (fun (k : Nat) (L : List UInt8) (sL : Seg) => 256 - k) 0 (List.replicate 256 (0 : UInt8)) s5 (⟨Nat.zero_le _, rfl, o6⟩) ⟨rfl, rfl, rfl, trivial⟩ rfl ?_
  rintro k L sL ⟨hk, hL, ho⟩ ihL1
  have hLl : L.length = 256 := by rw [hL, List.length_append, List.length_replicate, List.length_replicate]; omega
  refine At.seq ?_
  refine At.region ?_
  refine AtL.lss (.inl rfl) rfl rfl rfl ?_
  refine AtL.done ?_
  refine At.seq ?_
  refine At.cond rfl ?_ ?_
  · intro hc1
    have hc1 : (k : Int) < 256 := of_decide_eq_true hc1
    refine At.skip ?_
    refine At.seq ?_
    refine At.block ?_
    refine At.seq ?_
    refine At.region ?_
    refine AtL.move (.inl rfl) rfl rfl ?_
    refine AtL.assign (.inl rfl) rfl rfl ?_
    refine AtL.done ?_
    refine At.region ?_
    refine AtL.move (.inl rfl) rfl rfl ?_
    refine AtL.indexArr k Tryz.underlying166 tf_sz5 (.inl rfl) rfl rfl rfl rfl (by omega) ?_
    refine AtL.setIdx (u := 255) 0 k tf_sz5 rfl ho (by omega) (.inl rfl) rfl rfl ?_
    intro s7 o8
    refine AtL.done ?_
    refine At.inBlock ?_
    refine At.region ?_
    refine AtL.add (z := (k : Int) + 1) (.inl rfl) rfl rfl rfl (w64 (by omega) (by omega)) ?_
    refine AtL.move (.inl rfl) rfl rfl ?_
    refine AtL.done ?_
    refine ihL1 (k + 1) (L.set k 255) s7 (⟨by omega, by rw [hL]; exact fill_step (by omega), o8⟩) (by omega) _ ?_
    exact ⟨rfl, (by first | rfl | exact slLen (by simp []) | exact intEq (by omega) | exact intEq (by simp []) | exact slLen (by simp []; omega)), (by first | rfl | exact slLen (by simp []) | exact intEq (by omega) | exact intEq (by simp []) | exact slLen (by simp []; omega)), trivial⟩
  · intro hc1
    have hc1 : ¬ ((k : Int) < 256) := of_decide_eq_false hc1
    refine At.exit rfl ?_
    refine At.seq ?_
    refine At.seq ?_
    refine At.region ?_
    refine AtL.rangeS (l := letB) Tryz.underlying9 (.inl rfl) rfl rfl ?_
    intro b9
    refine AtL.done ?_
    refine At.block ?_
    refine At.loop3 (fun (k : Nat) (L : List UInt8) (sL : Seg) => [(0, .pointer (some ⟨b1, 0, none⟩)), (1, .pointer (some ⟨b4, 0, none⟩)), (11, .pointer (some ⟨b9, 0, none⟩))]) (fun (k : Nat) (L : List UInt8) (sL : Seg) => [(b9, .stringIter ⟨⟨letB⟩⟩ k)] :: sL :: s2 :: H) (fun (k : Nat) (L : List UInt8) (sL : Seg) => k ≤ 64 ∧ L = fillF k ∧ Own tyB 166 (some ⟨b4, 0, none⟩) 256 L sL) (fun (k : Nat) (L : List UInt8) (sL : Seg) => 64 - k) 0 L sL (⟨Nat.zero_le _, by rw [hL, show k = 256 by omega]; exact fill_end, ho⟩) ⟨rfl, rfl, rfl, trivial⟩ rfl ?_
    rintro k L sL ⟨hk, hL, ho⟩ ihL2
    have hLl : L.length = 256 := by rw [hL, fillF_len]
    refine At.seq ?_
    refine At.region ?_
    rcases Nat.lt_or_ge k 64 with hk64 | hk64
    · skip
      have hcb := (letB.getD k 0).toNat_lt
      refine AtL.nextS (p := k) (n := 1) (c := (letB.getD k 0).toNat) (l := letB) (H' := [(b9, .stringIter ⟨⟨letB⟩⟩ (k + 1))] :: sL :: s2 :: H) 0 0 (.inl rfl) rfl rfl rfl rfl (by rw [Nat.blt_eq]; exact hk64) (let_dec hk64) rfl ?_
      refine AtL.extract (.inl rfl) rfl rfl rfl ?_
      refine AtL.done ?_
      refine At.seq ?_
      refine At.condT rfl ?_
      refine At.skip ?_
      refine At.block ?_
      refine At.seq ?_
      refine At.region ?_
      refine AtL.extract (.inl rfl) rfl rfl rfl ?_
      refine AtL.extract (.inl rfl) rfl rfl rfl ?_
      refine AtL.assign (.inl rfl) rfl rfl ?_
      refine AtL.assign (.inl rfl) rfl rfl ?_
      refine AtL.done ?_
      refine At.region ?_
      refine AtL.move (.inl rfl) rfl rfl ?_
      refine AtL.convInt (z := ((letB.getD k 0).toNat : Int)) Tryz.underlying21 Tryz.underlying5 (.inl rfl) rfl rfl (w8 (by omega) (by omega)) ?_
      refine AtL.move (.inl rfl) rfl rfl ?_
      refine AtL.convInt (z := ((UInt8.ofNat k).toNat : Int)) Tryz.underlying3 Tryz.underlying5 (.inl rfl) rfl rfl (u8_nat k) ?_
      refine AtL.indexArr ((letB.getD k 0).toNat) Tryz.underlying166 tf_sz5 (.inl rfl) rfl rfl rfl rfl (by omega) ?_
      refine AtL.setIdx (u := (UInt8.ofNat k)) 1 ((letB.getD k 0).toNat) tf_sz5 rfl ho (by omega) (.inl rfl) rfl rfl ?_
      intro s10 o11
      refine AtL.done ?_
      refine At.inBlock ?_
      refine ihL2 (k + 1) (L.set ((letB.getD k 0).toNat) (UInt8.ofNat k)) s10 (⟨by omega, by rw [hL]; exact fillF_step (by omega), o11⟩) (by omega) _ ?_
      exact ⟨rfl, (by first | rfl | exact slLen (by simp []) | exact intEq (by omega) | exact intEq (by simp []) | exact slLen (by simp []; omega)), rfl, trivial⟩
    · skip
      refine AtL.nextOver (p := k) (l := letB) 0 0 (.inl rfl) rfl rfl rfl rfl (Nat.ble_eq_true_of_le hk64) ?_
      refine AtL.extract (.inl rfl) rfl rfl rfl ?_
      refine AtL.done ?_
      refine At.seq ?_
      refine At.condF rfl ?_
      refine At.exit rfl ?_
      refine At.seq ?_
      refine At.region ?_
      refine AtL.loadArr (ho.rd (i := 1) rfl) tf_agg166 (by simp [Ty.cells_len, tyB, hLl]) (.inl rfl) rfl rfl ?_
      refine AtL.storeArr (T := tyB) (l' := L) 2 tf_sz166 rfl o3 (by simp [hLl]) rfl (by simp [Ty.cells_len, tyB, hLl]) (.inl rfl) rfl rfl ?_
      intro s12 o13
      refine AtL.done ?_
      exact At.retMP (vs := [.agg (tyB.cells L).toArray]) (H2 := H) [] 3 rfl rfl Tryz.func130 rfl ⟨⟨_, rfl, LoadsTo.arr (o13.rd (i := 2) rfl) tf_agg166 (by simp [Ty.cells_len, tyB, hLl])⟩, trivial⟩ (⟨by rw [hL, show k = 64 by omega]; rfl, rfl⟩)

set_option maxHeartbeats 400000 in
theorem put_ok {w0 : World} {base : Nat} {H : List Seg} {b : Nat} {p q : List Bool} {n k : Int} (hn : n = (bv q : Int)) (hk : k = (q.length : Int)) (hp : p.length ≤ 16) (hq : q.length ≤ 8) :
    SCalls Tryz.prog 69 [.pointer (some ⟨b, 0, none⟩), .int .i64 n, .int .i64 k] w0 base ([(b, .cells #[.int .i64 (bv p : Int), .int .i64 (p.length : Int)] 117 (0, 0))] :: H) (fun v H' => v = .tuple #[] ∧ H' = [(b, .cells #[.int .i64 (bv (p ++ q) : Int), .int .i64 ((p ++ q).length : Int)] 117 (0, 0))] :: H) := by
  have hbp := bv_lt p
  have hbq := bv_lt q
  have h16 : (2 : Nat) ^ p.length ≤ 2 ^ 16 := Nat.pow_le_pow_right (by omega) hp
  have h8 : (2 : Nat) ^ q.length ≤ 2 ^ 8 := Nat.pow_le_pow_right (by omega) hq
  have hm : bv p * 2 ^ q.length ≤ 2 ^ 16 * 2 ^ 8 := Nat.mul_le_mul (by omega) h8
  have e24 : (2 : Nat) ^ 16 * 2 ^ 8 = 16777216 := by decide
  have e8 : (2 : Nat) ^ 8 = 256 := by decide
  refine SCalls.of_walk (n := 25) Tryz.func69 rfl rfl rfl fun cs => ?_
  refine At.seq ?_
  refine At.region ?_
  refine AtL.move (.inl rfl) rfl rfl ?_
  refine AtL.move (.inl rfl) rfl rfl ?_
  refine AtL.nilCheck (.inl rfl) rfl rfl ?_
  refine AtL.fieldAddrB tf_fo117_0 (.inl rfl) rfl rfl rfl ?_
  refine AtL.load tf_flat3 (.inl rfl) rfl rfl (Cell.own 0 0 rfl rfl rfl) ?_
  refine AtL.move (.inl rfl) rfl rfl ?_
  refine AtL.shl (z := ((bv p * 2 ^ q.length : Nat) : Int)) (.inl rfl) rfl rfl rfl (by omega) (by rw [hk]; exact shlN (by omega) (by omega)) ?_
  refine AtL.move (.inl rfl) rfl rfl ?_
  refine AtL.bor (z := ((bv p * 2 ^ q.length + bv q : Nat) : Int)) (.inl rfl) rfl rfl rfl (by rw [hn]; exact orN hbq (by omega)) ?_
  refine AtL.nilCheck (.inl rfl) rfl rfl ?_
  refine AtL.fieldAddrB tf_fo117_0 (.inl rfl) rfl rfl rfl ?_
  refine AtL.store (H' := [(b, .cells #[.int .i64 ((bv p * 2 ^ q.length + bv q : Nat) : Int), .int .i64 (p.length : Int)] 117 (0, 0))] :: H) 0 0 tf_sz3 (.inl rfl) rfl rfl rfl rfl rfl rfl rfl rfl rfl ?_
  refine AtL.done ?_
  refine At.region ?_
  refine AtL.move (.inl rfl) rfl rfl ?_
  refine AtL.nilCheck (.inl rfl) rfl rfl ?_
  refine AtL.fieldAddrB tf_fo117_1 (.inl rfl) rfl rfl rfl ?_
  refine AtL.load tf_flat3 (.inl rfl) rfl rfl (Cell.own 0 0 rfl rfl rfl) ?_
  refine AtL.move (.inl rfl) rfl rfl ?_
  refine AtL.add (z := ((p.length + q.length : Nat) : Int)) (.inl rfl) rfl rfl rfl (by rw [hk]; exact w64 (by omega) (by omega)) ?_
  refine AtL.nilCheck (.inl rfl) rfl rfl ?_
  refine AtL.fieldAddrB tf_fo117_1 (.inl rfl) rfl rfl rfl ?_
  refine AtL.store (H' := [(b, .cells #[.int .i64 ((bv p * 2 ^ q.length + bv q : Nat) : Int), .int .i64 ((p.length + q.length : Nat) : Int)] 117 (0, 0))] :: H) 0 0 tf_sz3 (.inl rfl) rfl rfl rfl rfl rfl rfl rfl rfl rfl ?_
  refine AtL.done ?_
  exact At.end_ Tryz.func69 rfl rfl (⟨rfl, by rw [bv_app, List.length_append, Int.natCast_add]⟩)

set_option maxHeartbeats 400000 in
theorem get_ok {w0 : World} {base : Nat} {H : List Seg} {b : Nat} {p : List Bool} {n : Int} (k : Nat) (hn : n = (k : Int)) (hk : k ≤ p.length) (hp : p.length ≤ 16) :
    SCalls Tryz.prog 71 [.pointer (some ⟨b, 0, none⟩), .int .i64 n] w0 base ([(b, .cells #[.int .i64 (bv p : Int), .int .i64 (p.length : Int)] 117 (0, 0))] :: H) (fun v H' => v = int (bv (p.take k) : Int) ∧ H' = [(b, .cells #[.int .i64 (bv (p.drop k) : Int), .int .i64 ((p.drop k).length : Int)] 117 (0, 0))] :: H) := by
  have hdk : (p.drop k).length = p.length - k := List.length_drop
  have htd : p.take k ++ p.drop k = p := List.take_append_drop k p
  have hbp := bv_lt p
  have h16 : (2 : Nat) ^ p.length ≤ 2 ^ 16 := Nat.pow_le_pow_right (by omega) hp
  have e16 : (2 : Nat) ^ 16 = 65536 := by decide
  have hdv := bv_div (p.take k) (p.drop k)
  have hmd := bv_mod (p.take k) (p.drop k)
  rw [htd, hdk] at hdv hmd
  refine SCalls.of_walk (n := 37) Tryz.func71 rfl rfl rfl fun cs => ?_
  refine At.seq ?_
  refine At.region ?_
  refine AtL.assign (.inl rfl) rfl rfl ?_
  refine AtL.done ?_
  refine At.seq ?_
  refine At.region ?_
  refine AtL.move (.inl rfl) rfl rfl ?_
  refine AtL.nilCheck (.inl rfl) rfl rfl ?_
  refine AtL.fieldAddrB tf_fo117_1 (.inl rfl) rfl rfl rfl ?_
  refine AtL.load tf_flat3 (.inl rfl) rfl rfl (Cell.own 0 0 rfl rfl rfl) ?_
  refine AtL.move (.inl rfl) rfl rfl ?_
  refine AtL.sub (z := ((p.length - k : Nat) : Int)) (.inl rfl) rfl rfl rfl (by rw [hn, show (p.length : Int) - (k : Int) = ((p.length - k : Nat) : Int) by omega]; exact w64 (by omega) (by omega)) ?_
  refine AtL.nilCheck (.inl rfl) rfl rfl ?_
  refine AtL.fieldAddrB tf_fo117_1 (.inl rfl) rfl rfl rfl ?_
  refine AtL.store (H' := [(b, .cells #[.int .i64 (bv p : Int), .int .i64 ((p.length - k : Nat) : Int)] 117 (0, 0))] :: H) 0 0 tf_sz3 (.inl rfl) rfl rfl rfl rfl rfl rfl rfl rfl rfl ?_
  refine AtL.done ?_
  refine At.seq ?_
  refine At.draw (es := []) (pv := [(0, .pointer (some ⟨b, 0, none⟩)), (1, .pointer (some ⟨b, 0, none⟩)), (2, .pointer (some ⟨b, 0, none⟩)), (3, .int .i64 (bv p : Int)), (4, .pointer (some ⟨b, 0, none⟩)), (5, .pointer (some ⟨b, 0, none⟩)), (6, .pointer (some ⟨b, 1, none⟩)), (7, .int .i64 ((p.length - k : Nat) : Int)), (8, .int .i64 ((bv p / 2 ^ (p.length - k) : Nat) : Int)), (9, .int .i64 ((bv p / 2 ^ (p.length - k) : Nat) : Int))]) tf_mixed (by kernel_rfl) (by kernel_rfl) (by kernel_rfl) ?_
  refine ⟨⟨.inr ⟨_, rfl, rfl, .inl ⟨rfl, Do.move rfl⟩⟩, .inr ⟨_, rfl, rfl, .inl ⟨rfl, Do.nilCheck rfl⟩⟩, .inr ⟨_, rfl, rfl, .inl ⟨rfl, Do.fieldAddrB tf_fo117_0 rfl rfl⟩⟩, .inr ⟨_, rfl, rfl, .inl ⟨rfl, Do.load tf_flat3 rfl (Cell.own 0 0 rfl rfl rfl)⟩⟩, .inr ⟨_, rfl, rfl, .inl ⟨rfl, Do.move rfl⟩⟩, .inr ⟨_, rfl, rfl, .inl ⟨rfl, Do.nilCheck rfl⟩⟩, .inr ⟨_, rfl, rfl, .inl ⟨rfl, Do.fieldAddrB tf_fo117_1 rfl rfl⟩⟩, .inr ⟨_, rfl, rfl, .inl ⟨rfl, Do.load tf_flat3 rfl (Cell.own 0 0 rfl rfl rfl)⟩⟩, .inr ⟨_, rfl, rfl, .inl ⟨rfl, Do.shr (z := ((bv p / 2 ^ (p.length - k) : Nat) : Int)) rfl rfl (by omega) (shrN (by omega))⟩⟩, .inr ⟨_, rfl, rfl, .inl ⟨rfl, Do.assign rfl⟩⟩, trivial⟩, by kernel_rfl, ?_⟩
  refine At.mono (E' := [(0, .pointer (some ⟨b, 0, none⟩)), (5, .int .i64 ((bv p / 2 ^ (p.length - k) : Nat) : Int))]) ⟨rfl, rfl, trivial⟩ ?_
  refine At.seq ?_
  refine At.draw (es := [13]) (pv := [(0, .pointer (some ⟨b, 0, none⟩)), (1, .pointer (some ⟨b, 0, none⟩)), (2, .pointer (some ⟨b, 0, none⟩)), (3, .int .i64 (bv p : Int)), (4, .pointer (some ⟨b, 0, none⟩)), (5, .pointer (some ⟨b, 0, none⟩)), (6, .pointer (some ⟨b, 1, none⟩)), (7, .int .i64 ((p.length - k : Nat) : Int)), (8, .int .i64 ((1 * 2 ^ (p.length - k) : Nat) : Int)), (9, .int .i64 ((2 ^ (p.length - k) - 1 : Nat) : Int)), (10, .int .i64 ((bv p % 2 ^ (p.length - k) : Nat) : Int)), (11, .pointer (some ⟨b, 0, none⟩)), (12, .pointer (some ⟨b, 0, none⟩))]) tf_mixed (by kernel_rfl) (by kernel_rfl) (by kernel_rfl) ?_
  refine ⟨⟨.inr ⟨_, rfl, rfl, .inl ⟨rfl, Do.move rfl⟩⟩, .inr ⟨_, rfl, rfl, .inl ⟨rfl, Do.nilCheck rfl⟩⟩, .inr ⟨_, rfl, rfl, .inl ⟨rfl, Do.fieldAddrB tf_fo117_0 rfl rfl⟩⟩, .inr ⟨_, rfl, rfl, .inl ⟨rfl, Do.load tf_flat3 rfl (Cell.own 0 0 rfl rfl rfl)⟩⟩, .inr ⟨_, rfl, rfl, .inl ⟨rfl, Do.move rfl⟩⟩, .inr ⟨_, rfl, rfl, .inl ⟨rfl, Do.nilCheck rfl⟩⟩, .inr ⟨_, rfl, rfl, .inl ⟨rfl, Do.fieldAddrB tf_fo117_1 rfl rfl⟩⟩, .inr ⟨_, rfl, rfl, .inl ⟨rfl, Do.load tf_flat3 rfl (Cell.own 0 0 rfl rfl rfl)⟩⟩, .inr ⟨_, rfl, rfl, .inl ⟨rfl, Do.shl (z := ((1 * 2 ^ (p.length - k) : Nat) : Int)) rfl rfl (by omega) (shlN (a := 1) (by omega) (by have := pow62 (k := p.length - k) (by omega); omega))⟩⟩, .inr ⟨_, rfl, rfl, .inl ⟨rfl, Do.sub (z := ((2 ^ (p.length - k) - 1 : Nat) : Int)) rfl rfl (by have := pow62 (k := p.length - k) (by omega); have h0 := Nat.two_pow_pos (p.length - k); rw [show ((1 * 2 ^ (p.length - k) : Nat) : Int) - 1 = ((2 ^ (p.length - k) - 1 : Nat) : Int) by omega]; exact w64 (by omega) (by omega))⟩⟩, .inr ⟨_, rfl, rfl, .inl ⟨rfl, Do.band (z := ((bv p % 2 ^ (p.length - k) : Nat) : Int)) rfl rfl (andN (by omega) (by omega))⟩⟩, .inr ⟨_, rfl, rfl, .inl ⟨rfl, Do.nilCheck rfl⟩⟩, .inr ⟨_, rfl, rfl, .inl ⟨rfl, Do.fieldAddrB tf_fo117_0 rfl rfl⟩⟩, trivial⟩, rfl, rfl, by kernel_rfl, _, rfl, rfl, rfl, _, Do.store (H' := [(b, .cells #[.int .i64 ((bv p % 2 ^ (p.length - k) : Nat) : Int), .int .i64 ((p.length - k : Nat) : Int)] 117 (0, 0))] :: H) 0 0 tf_sz3 rfl rfl rfl rfl rfl rfl rfl rfl rfl, ?_⟩
  rintro _ _ ⟨rfl, rfl⟩
  refine ⟨[], rfl, ?_⟩
  refine ⟨⟨.inl (by kernel_rfl), .inl (by kernel_rfl), .inl (by kernel_rfl), .inl (by kernel_rfl), .inl (by kernel_rfl), .inl (by kernel_rfl), .inl (by kernel_rfl), .inl (by kernel_rfl), .inl (by kernel_rfl), .inl (by kernel_rfl), .inl (by kernel_rfl), .inl (by kernel_rfl), .inl (by kernel_rfl), trivial⟩, by kernel_rfl, ?_⟩
  refine At.mono (E' := [(5, .int .i64 ((bv p / 2 ^ (p.length - k) : Nat) : Int))]) ⟨rfl, trivial⟩ ?_
  refine At.seq ?_
  refine At.region ?_
  refine AtL.move (.inl rfl) rfl rfl ?_
  refine AtL.assign (.inl rfl) rfl rfl ?_
  refine AtL.done ?_
  exact At.ret Tryz.func71 rfl rfl (⟨by rw [hdv]; rfl, by rw [hmd, hdk]⟩)

end Go.Proofs.YtlkdmbpbjhjkfaaGreatDoor
