/- Plain facts on what Mean, Spread, Abs and same compute. -/
import Derived.Test.YtmopjmnpbmkjpaaWq
import Derived.Laws.BitsAllLaws
namespace Go.Proofs.Ytmopjmnpbmkjpaa
open Go.RowKit Fl

def W64 (x : Nat) : Prop := x < 18446744073709551616

theorem nanW_lt (x y : Nat) (w : World) : W64 (nanW (.nanBits .f64 x y) w) := by
  unfold W64 nanW Question.cut
  generalize w.tape w.drawn _ = t
  simp only
  have h1 : t % 2 < 2 := Nat.mod_lt _ (by omega)
  have h2 : t / 2 % (2 ^ 52 - 1) < 2 ^ 52 - 1 := Nat.mod_lt _ (by omega)
  generalize t % 2 = a at *
  generalize t / 2 % (2 ^ 52 - 1) = b at *
  have : a = 0 ∨ a = 1 := by omega
  rcases this with rfl | rfl <;> omega
theorem floatBits_lt {op : BinOp} {x y r : Nat} (h : floatBits op .f64 x y = some r) : W64 r := by
  have := floatBits_wf h
  unfold W64
  simpa [Lit.wf] using this
theorem flR_lt (op : BinOp) (x y : Nat) (w : World) : W64 (flR op x y w) := by
  unfold flR
  cases h : floatBits op .f64 x y with
  | none => exact nanW_lt ..
  | some r => exact floatBits_lt h

def absF (x : Nat) : Nat := x % 9223372036854775808
theorem abs_bits {x : Nat} (h : W64 x) : (bits .andNot .u64 (x : Int) 9223372036854775808).toNat = absF x := by
  have e := u64_andNot_nat x 9223372036854775808 h (by omega)
  rw [show (9223372036854775808 : Int) = ((9223372036854775808 : Nat) : Int) from rfl, e, Int.toNat_natCast]
  exact Nat.and_two_pow_sub_one_eq_mod x 63
theorem rung_abs (x : Nat) : rung (absF x) = rung x := by unfold rung absF; omega
theorem ng_abs (x : Nat) : ng (absF x) = false := by
  unfold ng absF
  rw [Nat.div_eq_of_lt (Nat.mod_lt _ (by omega))]; rfl
theorem real_abs (x : Nat) : real (absF x) ↔ real x := by unfold real; rw [rung_abs]
theorem key_abs (x : Nat) : key (absF x) = rung x := by unfold key; rw [ng_abs, rung_abs]; rfl
theorem absF_lt (x : Nat) : W64 (absF x) := by unfold W64 absF; omega

/-- The mean, where it is no NaN: old + part * (now - old). -/
def meanQ (o n p : Nat) : Option Nat := (floatBits .sub .f64 n o).bind fun f => (floatBits .mul .f64 p f).bind fun s => floatBits .add .f64 o s
def meanF (o n p : Nat) : Nat := if nanB o then n else if nanB n then o else (meanQ o n p).getD n

theorem meanX_some {o n p q : Nat} (w w1 w2 : World) (h : meanQ o n p = some q) : flR .add o (flR .mul p (flR .sub n o w) w1) w2 = q ∧ real q := by
  unfold meanQ at h
  obtain ⟨f, h1, h2⟩ := Option.bind_eq_some_iff.1 h
  obtain ⟨s, h3, h4⟩ := Option.bind_eq_some_iff.1 h2
  rw [flR_some w h1, flR_some _ h3, flR_some _ h4]
  exact ⟨rfl, floatBits_real (.inl rfl) h4⟩
theorem meanX_none {o n p : Nat} (w w1 w2 : World) (h : meanQ o n p = none) : ¬ real (flR .add o (flR .mul p (flR .sub n o w) w1) w2) := by
  unfold meanQ at h
  cases h1 : floatBits .sub .f64 n o with
  | none => exact flR_none _ (floatBits_nan (.inr (flR_none _ (floatBits_nan (.inr (flR_none _ h1))))))
  | some f =>
    rw [h1] at h
    rw [flR_some w h1]
    cases h2 : floatBits .mul .f64 p f with
    | none => exact flR_none _ (floatBits_nan (.inr (flR_none _ h2)))
    | some s =>
      rw [flR_some w1 h2]
      have h3 : floatBits .add .f64 o s = none := by simpa [h2] using h
      exact flR_none _ h3

theorem mean_1 {o n p : Nat} (h : nanB o = true) : n = meanF o n p := by unfold meanF; rw [h]; rfl
theorem mean_2 {o n p : Nat} (h : nanB o = false) (h2 : nanB n = true) : o = meanF o n p := by unfold meanF; rw [if_neg (by simp [h]), if_pos h2]
theorem mean_3 {o n p : Nat} {w w1 w2 : World} (h : nanB o = false) (h2 : nanB n = false) (h3 : nanB (flR .add o (flR .mul p (flR .sub n o w) w1) w2) = true) : n = meanF o n p := by
  unfold meanF
  rw [if_neg (by simp [h]), if_neg (by simp [h2])]
  cases hq : meanQ o n p with
  | none => rfl
  | some q =>
    obtain ⟨e, hr⟩ := meanX_some w w1 w2 hq
    rw [nanB_iff, e] at h3
    exact absurd hr h3
theorem mean_4 {o n p : Nat} {w w1 w2 : World} (h : nanB o = false) (h2 : nanB n = false) (h3 : nanB (flR .add o (flR .mul p (flR .sub n o w) w1) w2) = false) : flR .add o (flR .mul p (flR .sub n o w) w1) w2 = meanF o n p := by
  unfold meanF
  rw [if_neg (by simp [h]), if_neg (by simp [h2])]
  cases hq : meanQ o n p with
  | none =>
    rw [nanB_false] at h3
    exact absurd h3 (meanX_none w w1 w2 hq)
  | some q => exact (meanX_some w w1 w2 hq).1
theorem meanF_lt {o n p : Nat} (ho : W64 o) (hn : W64 n) : W64 (meanF o n p) := by
  unfold meanF
  split
  · exact hn
  · split
    · exact ho
    · cases hq : meanQ o n p with
      | none => exact hn
      | some q => rw [← (meanX_some default default default hq).1]; exact flR_lt ..

/-- Bit by bit the same, or both NaN. -/
def sameB (a b : Nat) : Bool := ((a : Int) == (b : Int)) || (nanB a && nanB b)
theorem sameB_refl (a : Nat) : sameB a a = true := by unfold sameB; simp

/-- What a spread may be. -/
def SprOk (o m n p r : Nat) : Prop := ∃ d, r = meanF o (absF d) p ∧ W64 d ∧ (∀ k, floatBits .sub .f64 n m = some k → d = k) ∧ (floatBits .sub .f64 n m = none → ¬ real d)
theorem spr_same {o m n p r r' : Nat} (h : SprOk o m n p r) (h' : SprOk o m n p r') : sameB r r' = true := by
  obtain ⟨d, rfl, _, h1, h2⟩ := h
  obtain ⟨d', rfl, _, h1', h2'⟩ := h'
  cases hq : floatBits .sub .f64 n m with
  | some k => rw [h1 k hq, h1' k hq]; exact sameB_refl _
  | none =>
    have a := (nanB_iff _).2 (fun h => h2 hq ((real_abs d).1 h))
    have a' := (nanB_iff _).2 (fun h => h2' hq ((real_abs d').1 h))
    unfold meanF
    rw [a, a']
    cases nanB o with
    | false => simp only [Bool.false_eq_true, if_false, if_true]; exact sameB_refl _
    | true => simp only [if_true]; unfold sameB; rw [a, a']; simp
end Go.Proofs.Ytmopjmnpbmkjpaa
