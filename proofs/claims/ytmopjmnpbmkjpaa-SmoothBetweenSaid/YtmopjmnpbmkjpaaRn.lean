/- Plain facts on rounding to binary64: the rung of a magnitude is monotone in it, and exact where the magnitude is a word's. -/
import Derived.Test.YtmopjmnpbmkjpaaKey
namespace Go.Proofs.Ytmopjmnpbmkjpaa.Fl
open Ieee

/-- n / 2 ^ d to the nearest, between two to the even one. -/
def rne (n d : Nat) : Nat := n / 2 ^ d + if 2 ^ d < 2 * (n % 2 ^ d) ∨ (2 ^ d = 2 * (n % 2 ^ d) ∧ n / 2 ^ d % 2 = 1) then 1 else 0

theorem rne_zero (n : Nat) : rne n 0 = n := by
  unfold rne
  rw [Nat.pow_zero, Nat.div_one, Nat.mod_one, if_neg (by omega)]; rfl

theorem rne_shift (n d a : Nat) : rne (n * 2 ^ a) (d + a) = rne n d := by
  have hp : 0 < 2 ^ a := Nat.two_pow_pos a
  unfold rne
  rw [Nat.pow_add, Nat.mul_div_mul_right _ _ hp, Nat.mul_mod_mul_right]
  have e1 : (2 ^ d * 2 ^ a < 2 * (n % 2 ^ d * 2 ^ a)) ↔ 2 ^ d < 2 * (n % 2 ^ d) := by
    rw [← Nat.mul_assoc]
    exact Nat.mul_lt_mul_right hp
  have e2 : (2 ^ d * 2 ^ a = 2 * (n % 2 ^ d * 2 ^ a)) ↔ 2 ^ d = 2 * (n % 2 ^ d) := by
    rw [← Nat.mul_assoc]
    exact ⟨fun h => Nat.eq_of_mul_eq_mul_right hp h, fun h => congrArg (· * 2 ^ a) h⟩
  simp only [e1, e2]

theorem rne_exact (n d : Nat) : rne (n * 2 ^ d) d = n := by
  have := rne_shift n 0 d
  rw [Nat.zero_add, rne_zero] at this
  exact this

theorem rne_ge (n d : Nat) : n / 2 ^ d ≤ rne n d := Nat.le_add_right _ _
theorem rne_le (n d : Nat) : rne n d ≤ n / 2 ^ d + 1 := by
  unfold rne; split <;> omega

theorem rne_mono {n m : Nat} (d : Nat) (h : n ≤ m) : rne n d ≤ rne m d := by
  have hq : n / 2 ^ d ≤ m / 2 ^ d := Nat.div_le_div_right h
  rcases Nat.lt_or_eq_of_le hq with h1 | h1
  · have := rne_le n d; have := rne_ge m d; omega
  · have e1 := Nat.div_add_mod n (2 ^ d)
    have e2 := Nat.div_add_mod m (2 ^ d)
    rw [h1] at e1
    have hr : n % 2 ^ d ≤ m % 2 ^ d := by omega
    unfold rne
    rw [h1]
    generalize 2 ^ d = P at *
    generalize m / P % 2 = o at *
    split
    · rw [if_pos (by omega)]; exact Nat.le_refl _
    · split <;> omega

/-- The rounded is at most half a unit off. -/
theorem rne_near (n d : Nat) : rne n d * 2 ^ d ≤ n + 2 ^ d / 2 ∧ n ≤ rne n d * 2 ^ d + 2 ^ d / 2 := by
  have e1 := Nat.div_add_mod n (2 ^ d)
  have hp : 0 < 2 ^ d := Nat.two_pow_pos d
  have hm : n % 2 ^ d < 2 ^ d := Nat.mod_lt _ hp
  unfold rne
  rw [Nat.add_mul, Nat.mul_comm (n / 2 ^ d)]
  generalize 2 ^ d * (n / 2 ^ d) = X at *
  generalize n / 2 ^ d % 2 = o at *
  generalize 2 ^ d = P at *
  generalize n % P = r at *
  split <;> omega

theorem cut_even (s : Bool) (n drop : Nat) : Toward.even.cut s n drop = rne n drop := by
  unfold Toward.cut rne
  simp only [Nat.shiftLeft_eq, Nat.one_mul]
  by_cases h : drop ≤ n.log2 + 2
  · rw [Nat.min_eq_left h]
    generalize 2 ^ drop = P
    by_cases h1 : P < 2 * (n % P)
    · simp [h1]
    · by_cases h2 : P = 2 * (n % P) ∧ n / P % 2 = 1
      · rw [if_pos (.inr h2)]
        simp only [decide_eq_false h1, Bool.false_or]
        rw [beq_iff_eq.2 h2.1, beq_iff_eq.2 h2.2]; rfl
      · rw [if_neg (by omega)]
        have : (P == 2 * (n % P) && n / P % 2 == 1) = false := by
          rw [Bool.eq_false_iff]; intro hh; rw [Bool.and_eq_true, beq_iff_eq, beq_iff_eq] at hh; exact h2 hh
        simp only [decide_eq_false h1, this, Bool.or_self, Bool.toNat_false]
  · rw [Nat.min_eq_right (by omega)]
    have hn : n < 2 ^ (n.log2 + 1) := Nat.lt_log2_self
    have hp : 2 ^ (n.log2 + 2) = 2 * 2 ^ (n.log2 + 1) := by rw [Nat.pow_succ 2 (n.log2 + 1)]; omega
    have hd : 2 ^ (n.log2 + 2) ≤ 2 ^ drop := Nat.pow_le_pow_right (by omega) (by omega)
    generalize 2 ^ (n.log2 + 2) = G at *
    generalize 2 ^ (n.log2 + 1) = H at *
    generalize 2 ^ drop = P at *
    rw [Nat.div_eq_of_lt (show n < G by omega), Nat.mod_eq_of_lt (show n < G by omega), Nat.div_eq_of_lt (show n < P by omega), Nat.mod_eq_of_lt (show n < P by omega), if_neg (by omega)]
    have h1 : ¬ G < 2 * n := by omega
    have h2 : (G == 2 * n) = false := by rw [beq_eq_false_iff_ne]; omega
    simp only [decide_eq_false h1, h2, Bool.false_and, Bool.or_self, Bool.toNat_false]

/-- The rung of V units of 2 ^ -(1074 + L). -/
def R (L V : Nat) : Nat := if V = 0 then 0 else min ((max (V.log2 - 52) L - L) * 4503599627370496 + rne V (max (V.log2 - 52) L)) 9218868437227405312

theorem R_zero (L : Nat) : R L 0 = 0 := rfl
theorem R_le (L V : Nat) : R L V ≤ 9218868437227405312 := by unfold R; split; omega; exact Nat.min_le_right _ _

theorem log2_mul_pow (m a : Nat) (h : m ≠ 0) : (m * 2 ^ a).log2 = m.log2 + a := by
  rw [Nat.log2_eq_iff (by have := Nat.two_pow_pos a; intro e; rcases Nat.mul_eq_zero.1 e with e | e <;> omega)]
  have h1 := Nat.log2_self_le h
  have h2 : m < 2 ^ (m.log2 + 1) := Nat.lt_log2_self
  constructor
  · rw [Nat.pow_add]; exact Nat.mul_le_mul_right _ h1
  · rw [show m.log2 + a + 1 = (m.log2 + 1) + a from by omega, Nat.pow_add]
    exact Nat.mul_lt_mul_of_pos_right h2 (Nat.two_pow_pos a)

theorem nearest_R (s : Bool) (m a L : Nat) (p : Int) (hp : p + 1074 + L = a) : Ieee.double.nearest s m p = Ieee.double.word s (R L (m * 2 ^ a)) := by
  unfold Format.nearest R
  by_cases h0 : m = 0
  · subst h0; simp
  · have hne : m * 2 ^ a ≠ 0 := by have := Nat.two_pow_pos a; intro e; rcases Nat.mul_eq_zero.1 e with e | e <;> omega
    rw [if_neg h0, if_neg hne]
    dsimp only
    rw [cut_even, lp, bw, ir, log2_mul_pow m a h0, Nat.shiftLeft_eq]
    have hf : Ieee.double.fractionBits = 52 := rfl
    rw [hf]
    generalize hl : m.log2 = l
    have e1 : (max (p + (l : Int) - ((52 : Nat) : Int)) (-1074) - -1074).toNat = max (l + a - 52) L - L := by omega
    have e2 : (p - max (p + (l : Int) - ((52 : Nat) : Int)) (-1074)).toNat = a - max (l + a - 52) L := by omega
    have e3 : (max (p + (l : Int) - ((52 : Nat) : Int)) (-1074) - p).toNat = max (l + a - 52) L - a := by omega
    rw [e1, e2, e3]
    congr 3
    generalize max (l + a - 52) L = D
    rcases Nat.le_total a D with h | h
    · rw [Nat.sub_eq_zero_of_le h, Nat.pow_zero, Nat.mul_one]
      have := rne_shift m (D - a) a
      rw [Nat.sub_add_cancel h] at this
      exact this.symm
    · rw [Nat.sub_eq_zero_of_le h, rne_zero]
      have : m * 2 ^ a = (m * 2 ^ (a - D)) * 2 ^ D := by rw [Nat.mul_assoc, ← Nat.pow_add, Nat.sub_add_cancel h]
      rw [this, rne_exact]

theorem R_mono {L V W : Nat} (h : V ≤ W) : R L V ≤ R L W := by
  by_cases hV : V = 0
  · subst hV; rw [R_zero]; omega
  · have hW : W ≠ 0 := by omega
    unfold R
    rw [if_neg hV, if_neg hW]
    have hl : V.log2 ≤ W.log2 := (Nat.le_log2 hW).2 (Nat.le_trans (Nat.log2_self_le hV) h)
    have hm : ∀ a b c : Nat, a ≤ b → min a c ≤ min b c := fun a b c h => by omega
    apply hm
    rcases Nat.lt_or_eq_of_le (show max (V.log2 - 52) L ≤ max (W.log2 - 52) L by omega) with h1 | h1
    · have hD : max (W.log2 - 52) L = W.log2 - 52 := by omega
      have hlo : 4503599627370496 ≤ rne W (max (W.log2 - 52) L) := by
        refine Nat.le_trans ?_ (rne_ge _ _)
        rw [Nat.le_div_iff_mul_le (Nat.two_pow_pos _), show (4503599627370496 : Nat) = 2 ^ 52 from rfl, ← Nat.pow_add, hD]
        exact Nat.le_trans (Nat.pow_le_pow_right (by omega) (by omega)) (Nat.log2_self_le hW)
      have hhi : rne V (max (V.log2 - 52) L) ≤ 9007199254740992 := by
        refine Nat.le_trans (rne_le _ _) ?_
        have : V / 2 ^ max (V.log2 - 52) L < 9007199254740992 := by
          rw [Nat.div_lt_iff_lt_mul (Nat.two_pow_pos _), show (9007199254740992 : Nat) = 2 ^ 53 from rfl, ← Nat.pow_add]
          exact Nat.lt_of_lt_of_le Nat.lt_log2_self (Nat.pow_le_pow_right (by omega) (by omega))
        omega
      omega
    · rw [h1]
      have := rne_mono (max (W.log2 - 52) L) h
      omega

theorem M_pow (D k : Nat) (h1 : 4503599627370496 ≤ k) (h2 : k ≤ 9007199254740992) : M (D * 4503599627370496 + k) = k * 2 ^ D := by
  unfold M
  rw [if_neg (by omega)]
  rcases Nat.lt_or_eq_of_le h2 with h3 | h3
  · have e1 : (D * 4503599627370496 + k) / 4503599627370496 - 1 = D := by omega
    have e2 : (D * 4503599627370496 + k) % 4503599627370496 = k - 4503599627370496 := by omega
    rw [e1, e2, show 4503599627370496 + (k - 4503599627370496) = k from by omega]
  · have e1 : (D * 4503599627370496 + k) / 4503599627370496 - 1 = D + 1 := by omega
    have e2 : (D * 4503599627370496 + k) % 4503599627370496 = 0 := by omega
    rw [e1, e2, h3, Nat.pow_succ]; omega

theorem log2_of {m e : Nat} (h1 : 2 ^ e ≤ m) (h2 : m < 2 ^ (e + 1)) : m.log2 = e := by
  have : m ≠ 0 := by have := Nat.two_pow_pos e; omega
  exact (Nat.log2_eq_iff this).2 ⟨h1, h2⟩

/-- A word's magnitude is rounded to the word. -/
theorem R_M {r : Nat} (h : r ≤ 9218868437227405312) : R 0 (M r) = r := by
  by_cases h0 : r = 0
  · subst h0; rfl
  · have hM : M r ≠ 0 := by have := M_lt (show 0 < r by omega); omega
    unfold R
    rw [if_neg hM]
    by_cases h1 : r < 4503599627370496
    · have e : M r = r := by unfold M; rw [if_pos h1]
      have hl : r.log2 < 52 := (Nat.log2_lt h0).2 h1
      rw [e, show max (r.log2 - 52) 0 = 0 from by omega, rne_zero]
      omega
    · have e : M r = (4503599627370496 + r % 4503599627370496) * 2 ^ (r / 4503599627370496 - 1) := by unfold M; rw [if_neg h1]
      have hl : (4503599627370496 + r % 4503599627370496).log2 = 52 := log2_of (by omega) (by omega)
      rw [e, log2_mul_pow _ _ (by omega), hl, show max (52 + (r / 4503599627370496 - 1) - 52) 0 = r / 4503599627370496 - 1 from by omega, rne_exact]
      omega
end Go.Proofs.Ytmopjmnpbmkjpaa.Fl
