/- Plain facts on binary64 words: a word that is no NaN has an integer key (its rung with its sign), and words stand to each other as their keys do. -/
import Derived.Laws.FloatArith
namespace Go.Proofs.Ytmopjmnpbmkjpaa.Fl
open Ieee

theorem sw : Ieee.double.signWeight = 9223372036854775808 := by decide
theorem bw : Ieee.double.binade = 4503599627370496 := by decide
theorem ir : Ieee.double.infRung = 9218868437227405312 := by decide
theorem lp : Ieee.double.leastPlace = -1074 := by decide

def rung (x : Nat) : Nat := x % 9223372036854775808
def ng (x : Nat) : Bool := x / 9223372036854775808 % 2 == 1
def key (x : Nat) : Int := if ng x then -(rung x : Int) else rung x
/-- No NaN. -/
def real (x : Nat) : Prop := rung x ≤ 9218868437227405312

theorem read_eq (x : Nat) : Ieee.double.read x =
    if rung x < 4503599627370496 then .number (ng x) (rung x) (-1074)
    else if rung x < 9218868437227405312 then .number (ng x) (4503599627370496 + rung x % 4503599627370496) (-1074 + (rung x / 4503599627370496 - 1 : Nat))
    else if rung x = 9218868437227405312 then .infinity (ng x) else .nan (ng x) (rung x - 9218868437227405312) := by
  simp only [Format.read, sw, bw, ir, lp, rung, ng]
  rfl

/-- A rung's magnitude, in units of the least place. -/
def M (r : Nat) : Nat := if r < 4503599627370496 then r else (4503599627370496 + r % 4503599627370496) * 2 ^ (r / 4503599627370496 - 1)

theorem M_succ (r : Nat) : M r < M (r + 1) := by
  unfold M
  by_cases h : r + 1 < 4503599627370496
  · rw [if_pos h, if_pos (by omega)]; omega
  · by_cases h2 : r < 4503599627370496
    · have e : r = 4503599627370495 := by omega
      subst e; decide
    · rw [if_neg h, if_neg h2]
      by_cases h3 : r % 4503599627370496 = 4503599627370495
      · have e1 : (r + 1) / 4503599627370496 = r / 4503599627370496 + 1 := by omega
        have e2 : (r + 1) % 4503599627370496 = 0 := by omega
        have e3 : r / 4503599627370496 + 1 - 1 = (r / 4503599627370496 - 1) + 1 := by omega
        rw [e1, e2, h3, e3, Nat.pow_succ]
        have : 0 < 2 ^ (r / 4503599627370496 - 1) := Nat.two_pow_pos _
        generalize 2 ^ (r / 4503599627370496 - 1) = p at *
        omega
      · have e1 : (r + 1) / 4503599627370496 = r / 4503599627370496 := by omega
        have e2 : (r + 1) % 4503599627370496 = r % 4503599627370496 + 1 := by omega
        rw [e1, e2]
        exact Nat.mul_lt_mul_of_pos_right (by omega) (Nat.two_pow_pos _)

theorem M_lt {r q : Nat} (h : r < q) : M r < M q := by
  induction q with
  | zero => omega
  | succ q ih =>
    rcases Nat.lt_succ_iff_lt_or_eq.1 h with h1 | rfl
    · exact Nat.lt_trans (ih h1) (M_succ q)
    · exact M_succ r
theorem M_le {r q : Nat} (h : r ≤ q) : M r ≤ M q := by
  rcases Nat.lt_or_eq_of_le h with h | rfl
  · exact Nat.le_of_lt (M_lt h)
  · exact Nat.le_refl _
theorem M_zero : M 0 = 0 := by decide
theorem M_iff {r q : Nat} : M r < M q ↔ r < q := ⟨fun h => by
  rcases Nat.lt_or_ge r q with h1 | h1
  · exact h1
  · have := M_le h1; omega, M_lt⟩

/-- With a sign. -/
def sv (s : Bool) (m : Nat) : Int := if s then -(m : Int) else m

theorem cmp_int (a b : Int) : compare a b = if a < b then .lt else if a = b then .eq else .gt := rfl
theorem cmp_nat (a b : Nat) : compare a b = if a < b then .lt else if a = b then .eq else .gt := rfl

theorem cmp_mul (a b : Int) (c : Nat) (hc : 0 < c) : compare (a * c) (b * c) = compare a b := by
  rw [cmp_int, cmp_int]
  have hc' : (0 : Int) < c := by omega
  have e1 : (a * c < b * c) ↔ a < b := Int.mul_lt_mul_right hc'
  have e2 : (a * c = b * c) ↔ a = b := ⟨fun h => Int.eq_of_mul_eq_mul_right (by omega) h, fun h => by rw [h]⟩
  simp only [e1, e2]

theorem sv_mul (s : Bool) (m c : Nat) : sv s (m * c) = sv s m * c := by
  unfold sv; split
  · rw [Int.natCast_mul, Int.neg_mul]
  · rw [Int.natCast_mul]

theorem signed_eq (s : Bool) (m up : Nat) : Ieee.signed s m up = sv s (m * 2 ^ up) := by
  unfold Ieee.signed sv; rw [Nat.shiftLeft_eq]

theorem cmp_sv_M (s t : Bool) (r q : Nat) : compare (sv s (M r)) (sv t (M q)) = compare (sv s r) (sv t q) := by
  rw [cmp_int, cmp_int]
  have h1 : M r < M q ↔ r < q := M_iff
  have h2 : M q < M r ↔ q < r := M_iff
  have h3 : 0 < M r ↔ 0 < r := by rw [← M_zero]; exact M_iff
  have h4 : 0 < M q ↔ 0 < q := by rw [← M_zero]; exact M_iff
  have e1 : (sv s (M r) < sv t (M q)) ↔ (sv s r < sv t q) := by
    unfold sv
    generalize M r = a at *
    generalize M q = b at *
    cases s <;> cases t <;> simp only [Bool.false_eq_true, if_false, if_true] <;> omega
  have e2 : (sv s (M r) = sv t (M q)) ↔ (sv s r = sv t q) := by
    unfold sv
    generalize M r = a at *
    generalize M q = b at *
    cases s <;> cases t <;> simp only [Bool.false_eq_true, if_false, if_true] <;> omega
  simp only [e1, e2]

/-- A finite word: what it stands for. -/
theorem read_fin {x : Nat} (h : rung x < 9218868437227405312) : ∃ m a : Nat, Ieee.double.read x = .number (ng x) m (-1074 + (a : Int)) ∧ m * 2 ^ a = M (rung x) := by
  rw [read_eq]
  by_cases h1 : rung x < 4503599627370496
  · rw [if_pos h1]; exact ⟨rung x, 0, rfl, by unfold M; rw [if_pos h1]; omega⟩
  · rw [if_neg h1, if_pos h]; exact ⟨_, _, rfl, by unfold M; rw [if_neg h1]⟩
theorem read_inf {x : Nat} (h : rung x = 9218868437227405312) : Ieee.double.read x = .infinity (ng x) := by
  rw [read_eq, if_neg (by omega), if_neg (by omega), if_pos h]
theorem read_nan {x : Nat} (h : ¬ real x) : Ieee.double.read x = .nan (ng x) (rung x - 9218868437227405312) := by
  unfold real at h
  rw [read_eq, if_neg (by omega), if_neg (by omega), if_neg (by omega)]

theorem order_num (s t : Bool) (m n a b : Nat) : Datum.order (.number s m (-1074 + (a : Int))) (.number t n (-1074 + (b : Int))) = some (compare (sv s (m * 2 ^ a)) (sv t (n * 2 ^ b))) := by
  simp only [Datum.order, signed_eq]
  rcases Nat.le_total a b with h | h
  · have e1 : ((-1074 + (a : Int)) - min (-1074 + (a : Int)) (-1074 + (b : Int))).toNat = 0 := by omega
    have e2 : ((-1074 + (b : Int)) - min (-1074 + (a : Int)) (-1074 + (b : Int))).toNat = b - a := by omega
    rw [e1, e2, Nat.pow_zero, Nat.mul_one, ← cmp_mul _ _ (2 ^ a) (Nat.two_pow_pos _), ← sv_mul, ← sv_mul, Nat.mul_assoc n, ← Nat.pow_add, Nat.sub_add_cancel h]
  · have e1 : ((-1074 + (b : Int)) - min (-1074 + (a : Int)) (-1074 + (b : Int))).toNat = 0 := by omega
    have e2 : ((-1074 + (a : Int)) - min (-1074 + (a : Int)) (-1074 + (b : Int))).toNat = a - b := by omega
    rw [e1, e2, Nat.pow_zero, Nat.mul_one, ← cmp_mul _ _ (2 ^ b) (Nat.two_pow_pos _), ← sv_mul, ← sv_mul, Nat.mul_assoc m, ← Nat.pow_add, Nat.sub_add_cancel h]

theorem key_sv (x : Nat) : key x = sv (ng x) (rung x) := rfl

theorem order_key {x y : Nat} (hx : real x) (hy : real y) : Ieee.double.order x y = some (compare (key x) (key y)) := by
  unfold real at hx hy
  unfold Format.order
  rcases Nat.lt_or_eq_of_le hx with hx1 | hx1 <;> rcases Nat.lt_or_eq_of_le hy with hy1 | hy1
  · obtain ⟨m, a, e1, e2⟩ := read_fin hx1
    obtain ⟨n, b, e3, e4⟩ := read_fin hy1
    rw [e1, e3, order_num, e2, e4, cmp_sv_M]; rfl
  · obtain ⟨m, a, e1, e2⟩ := read_fin hx1
    rw [e1, read_inf hy1]
    simp only [Datum.order, key_sv, hy1, cmp_int, sv]
    cases ng y <;> cases ng x <;> simp only [Bool.false_eq_true, if_false, if_true]
    all_goals first | rw [if_pos (by omega)] | rw [if_neg (by omega), if_neg (by omega)]
  · obtain ⟨m, a, e1, e2⟩ := read_fin hy1
    rw [e1, read_inf hx1]
    simp only [Datum.order, key_sv, hx1, cmp_int, sv]
    cases ng y <;> cases ng x <;> simp only [Bool.false_eq_true, if_false, if_true]
    all_goals first | rw [if_pos (by omega)] | rw [if_neg (by omega), if_neg (by omega)]
  · rw [read_inf hx1, read_inf hy1]
    simp only [Datum.order, key_sv, hx1, hy1, sv]
    cases ng y <;> cases ng x <;> rfl

theorem order_nan_left {x : Nat} (h : ¬ real x) (y : Nat) : Ieee.double.order x y = none := by
  unfold Format.order; rw [read_nan h]; rfl
theorem order_nan_right {y : Nat} (h : ¬ real y) (x : Nat) : Ieee.double.order x y = none := by
  unfold Format.order; rw [read_nan h]; cases Ieee.double.read x <;> rfl

theorem lt_iff (x y : Nat) : (FloatKind.f64.format.order x y == some .lt) = true ↔ real x ∧ real y ∧ key x < key y := by
  show (Ieee.double.order x y == some .lt) = true ↔ _
  by_cases hx : real x
  · by_cases hy : real y
    · rw [order_key hx hy, cmp_int]; simp only [hx, hy, true_and]
      split
      · simp [*]
      · split <;> simp [*]
    · rw [order_nan_right hy]; simp [hy]
  · rw [order_nan_left hx]; simp [hx]
theorem gt_iff (x y : Nat) : (FloatKind.f64.format.order x y == some .gt) = true ↔ real x ∧ real y ∧ key y < key x := by
  show (Ieee.double.order x y == some .gt) = true ↔ _
  by_cases hx : real x
  · by_cases hy : real y
    · rw [order_key hx hy, cmp_int]; simp only [hx, hy, true_and]
      split
      · simp only [Option.some_beq_some]; constructor
        · intro h; cases h
        · omega
      · split
        · simp only [Option.some_beq_some]; constructor
          · intro h; cases h
          · omega
        · simp only [Option.some_beq_some]; constructor
          · intro _; omega
          · intro _; rfl
    · rw [order_nan_right hy]; simp [hy]
  · rw [order_nan_left hx]; simp [hx]
theorem eq_iff (x y : Nat) : (FloatKind.f64.format.order x y == some .eq) = true ↔ real x ∧ real y ∧ key x = key y := by
  show (Ieee.double.order x y == some .eq) = true ↔ _
  by_cases hx : real x
  · by_cases hy : real y
    · rw [order_key hx hy, cmp_int]; simp only [hx, hy, true_and]
      split
      · simp only [Option.some_beq_some]; constructor
        · intro h; cases h
        · omega
      · split
        · simp only [Option.some_beq_some]; constructor
          · intro _; omega
          · intro _; rfl
        · simp only [Option.some_beq_some]; constructor
          · intro h; cases h
          · omega
    · rw [order_nan_right hy]; simp [hy]
  · rw [order_nan_left hx]; simp [hx]

theorem order_none_iff (x y : Nat) : FloatKind.f64.format.order x y = none ↔ ¬ (real x ∧ real y) := by
  show Ieee.double.order x y = none ↔ _
  by_cases hx : real x
  · by_cases hy : real y
    · rw [order_key hx hy]; simp [hx, hy]
    · rw [order_nan_right hy]; simp [hy]
  · rw [order_nan_left hx]; simp [hx]

/-- x != x. -/
theorem nan_iff (x : Nat) : (FloatKind.f64.format.order x x != some .eq) = true ↔ ¬ real x := by
  have := eq_iff x x
  rw [bne, Bool.not_eq_true', ← Bool.not_eq_true, this]
  simp
end Go.Proofs.Ytmopjmnpbmkjpaa.Fl
