/- Plain facts: sums, products and ceilings of words are monotone; so is a wait. -/
import Derived.Test.YtmopjmnpbmkjpaaRn
import Derived.Test.YtmopjmnpbmkjpaaMq
namespace Go.Proofs.Ytmopjmnpbmkjpaa
open Go.RowKit Fl

/-- A finite word. -/
def fin (x : Nat) : Prop := rung x < 9218868437227405312
theorem fin_real {x : Nat} (h : fin x) : real x := by unfold fin at h; unfold real; omega
/-- Its value, in units of the least place. -/
def val (x : Nat) : Int := sv (ng x) (M (rung x))
/-- A value's word's key. -/
def RI (v : Int) : Int := sv (decide (v < 0)) (R 0 v.natAbs)

theorem sv_zero (s : Bool) : sv s 0 = 0 := by cases s <;> rfl
theorem sv_mono {V W : Int} {f : Nat → Nat} (hm : ∀ a b, a ≤ b → f a ≤ f b) (h : V ≤ W) : sv (decide (V < 0)) (f V.natAbs) ≤ sv (decide (W < 0)) (f W.natAbs) := by
  unfold sv
  by_cases hv : V < 0 <;> by_cases hw : W < 0 <;> simp only [hv, hw, decide_true, decide_false, if_true, Bool.false_eq_true, if_false]
  · have := hm W.natAbs V.natAbs (by omega); omega
  · omega
  · omega
  · have := hm V.natAbs W.natAbs (by omega); omega
theorem RI_mono {v w : Int} (h : v ≤ w) : RI v ≤ RI w := sv_mono (f := R 0) (fun _ _ h => R_mono h) h

theorem sv_sign (s : Bool) (m : Nat) (f : Nat → Nat) (h0 : f 0 = 0) : sv (decide (sv s m < 0)) (f (sv s m).natAbs) = sv s (f m) := by
  unfold sv
  cases s
  · have : ¬ ((m : Int) < 0) := by omega
    simp only [Bool.false_eq_true, if_false, this, decide_false, Int.natAbs_natCast]
  · simp only [if_true]
    by_cases h : m = 0
    · subst h; simp [h0]
    · have : (-(m : Int)) < 0 := by omega
      simp only [this, decide_true, if_true, Int.natAbs_neg, Int.natAbs_natCast]

theorem RI_val {x : Nat} (h : real x) : RI (val x) = key x := by
  unfold RI val
  rw [sv_sign _ _ (R 0) rfl, R_M h]
  rfl

theorem key_word (s : Bool) (r : Nat) (h : r ≤ 9218868437227405312) : key (Ieee.double.word s r) = sv s r ∧ rung (Ieee.double.word s r) = r := by
  unfold Ieee.Format.word key ng rung sv
  rw [sw]
  cases s
  · simp only [Bool.false_eq_true, if_false]
    have e1 : r / 9223372036854775808 = 0 := Nat.div_eq_of_lt (by omega)
    have e2 : r % 9223372036854775808 = r := Nat.mod_eq_of_lt (by omega)
    rw [e1, e2]
    exact ⟨rfl, rfl⟩
  · simp only [if_true]
    have e1 : (9223372036854775808 + r) / 9223372036854775808 = 1 := by omega
    have e2 : (9223372036854775808 + r) % 9223372036854775808 = r := by omega
    rw [e1, e2]
    exact ⟨rfl, rfl⟩

theorem key_bd {x : Nat} (h : real x) : -9218868437227405312 ≤ key x ∧ key x ≤ 9218868437227405312 := by
  unfold real at h
  unfold key
  split <;> omega

/-- The sum of two finite words. -/
theorem add_fin {x y : Nat} (hx : fin x) (hy : fin y) : ∃ r, floatBits .add .f64 x y = some r ∧ key r = RI (val x + val y) ∧ real r := by
  obtain ⟨m, a, e1, e2⟩ := read_fin hx
  obtain ⟨n, b, e3, e4⟩ := read_fin hy
  simp only [floatBits, Ieee.Format.add]
  show ∃ r, ((Ieee.double.read x).sum (Ieee.double.read y)).map Ieee.double.write = some r ∧ _
  rw [e1, e3]
  simp only [Ieee.Datum.sum, Option.map_some]
  refine ⟨_, rfl, ?_⟩
  generalize hT : Ieee.signed (ng x) m ((-1074 + (a : Int)) - min (-1074 + (a : Int)) (-1074 + (b : Int))).toNat + Ieee.signed (ng y) n ((-1074 + (b : Int)) - min (-1074 + (a : Int)) (-1074 + (b : Int))).toNat = T
  have hmin : min (-1074 + (a : Int)) (-1074 + (b : Int)) = -1074 + ((min a b : Nat) : Int) := by omega
  have hsum : T * ((2 ^ min a b : Nat) : Int) = val x + val y := by
    rw [← hT, signed_eq, signed_eq, Int.add_mul, ← sv_mul, ← sv_mul]
    have i1 : ((-1074 + (a : Int)) - min (-1074 + (a : Int)) (-1074 + (b : Int))).toNat = a - min a b := by omega
    have i2 : ((-1074 + (b : Int)) - min (-1074 + (a : Int)) (-1074 + (b : Int))).toNat = b - min a b := by omega
    rw [i1, i2, Nat.mul_assoc, Nat.mul_assoc, ← Nat.pow_add, ← Nat.pow_add, Nat.sub_add_cancel (Nat.min_le_left a b), Nat.sub_add_cancel (Nat.min_le_right a b), e2, e4]
    rfl
  have hp : (0 : Int) < ((2 ^ min a b : Nat) : Int) := by have := Nat.two_pow_pos (min a b); omega
  show key (Ieee.double.nearest _ _ _) = _ ∧ real (Ieee.double.nearest _ _ _)
  rw [hmin, nearest_R _ _ (min a b) 0 _ (by omega)]
  have hk := key_word (if T = 0 then ng x && ng y else decide (T < 0)) (R 0 (T.natAbs * 2 ^ min a b)) (R_le _ _)
  refine ⟨?_, by unfold real; rw [hk.2]; exact R_le _ _⟩
  rw [hk.1]
  unfold RI
  have habs : T.natAbs * 2 ^ min a b = (val x + val y).natAbs := by rw [← hsum, Int.natAbs_mul, Int.natAbs_natCast]
  rw [habs]
  by_cases h0 : T = 0
  · have : val x + val y = 0 := by rw [← hsum, h0, Int.zero_mul]
    rw [this]
    show sv _ (R 0 0) = sv _ (R 0 0)
    rw [R_zero, sv_zero, sv_zero]
  · rw [if_neg h0]
    have : (T < 0) ↔ (val x + val y < 0) := by
      rw [← hsum]
      constructor
      · intro h; exact Int.mul_neg_of_neg_of_pos h hp
      · intro h
        rcases Int.lt_or_le T 0 with h1 | h1
        · exact h1
        · have := Int.mul_nonneg h1 (Int.le_of_lt hp); omega
    simp only [this]

theorem opp_read (y : Nat) (h : fin y) : ∃ n b : Nat, (Ieee.double.read y).opposite = .number (!ng y) n (-1074 + (b : Int)) ∧ n * 2 ^ b = M (rung y) := by
  obtain ⟨n, b, e3, e4⟩ := read_fin h
  exact ⟨n, b, by rw [e3]; rfl, e4⟩

/-- The difference of two finite words. -/
theorem sub_fin {x y : Nat} (hx : fin x) (hy : fin y) : ∃ r, floatBits .sub .f64 x y = some r ∧ key r = RI (val x - val y) ∧ real r := by
  -- y's opposite is a word: its sign turned
  have hz : ∃ z, fin z ∧ Ieee.double.read z = (Ieee.double.read y).opposite ∧ val z = - val y := by
    refine ⟨Ieee.double.word (!ng y) (rung y), ?_⟩
    unfold fin at hy
    have hk := key_word (!ng y) (rung y) (by omega)
    have hn : ng (Ieee.double.word (!ng y) (rung y)) = !ng y := by
      unfold Ieee.Format.word ng
      rw [sw]
      have hr : rung y < 9223372036854775808 := Nat.mod_lt _ (by omega)
      cases (y / 9223372036854775808 % 2 == 1)
      · simp only [Bool.not_false, if_true]
        have : (9223372036854775808 + rung y) / 9223372036854775808 = 1 := by omega
        rw [this]; rfl
      · simp only [Bool.not_true, Bool.false_eq_true, if_false]
        have : rung y / 9223372036854775808 = 0 := Nat.div_eq_of_lt hr
        rw [this]; rfl
    refine ⟨by unfold fin; rw [hk.2]; exact hy, ?_, ?_⟩
    · rw [read_eq, read_eq, hk.2, hn]
      by_cases h1 : rung y < 4503599627370496
      · rw [if_pos h1, if_pos h1]; rfl
      · rw [if_neg h1, if_neg h1, if_pos hy, if_pos hy]; rfl
    · unfold val
      rw [hk.2, hn]
      unfold sv
      cases ng y <;> simp
  obtain ⟨z, hz1, hz2, hz3⟩ := hz
  obtain ⟨r, h1, h2, h3⟩ := add_fin hx hz1
  refine ⟨r, ?_, by rw [h2, hz3]; rfl, h3⟩
  simp only [floatBits, Ieee.Format.add, Ieee.Format.sub] at h1 ⊢
  have e : FloatKind.f64.format = Ieee.double := rfl
  rw [e] at h1 ⊢
  rw [hz2] at h1
  exact h1

/-- The product of two finite words. -/
theorem mul_fin {x y : Nat} (hx : fin x) (hy : fin y) : ∃ r, floatBits .mul .f64 x y = some r ∧ key r = sv (ng x ^^ ng y) (R 1074 (M (rung x) * M (rung y))) ∧ real r := by
  obtain ⟨m, a, e1, e2⟩ := read_fin hx
  obtain ⟨n, b, e3, e4⟩ := read_fin hy
  simp only [floatBits, Ieee.Format.mul]
  show ∃ r, ((Ieee.double.read x).product (Ieee.double.read y)).map Ieee.double.write = some r ∧ _
  rw [e1, e3]
  simp only [Ieee.Datum.product, Option.map_some]
  refine ⟨_, rfl, ?_⟩
  show key (Ieee.double.nearest _ _ _) = _ ∧ real (Ieee.double.nearest _ _ _)
  rw [nearest_R _ _ (a + b) 1074 _ (by omega)]
  have hk := key_word (ng x ^^ ng y) (R 1074 (m * n * 2 ^ (a + b))) (R_le _ _)
  refine ⟨?_, by unfold real; rw [hk.2]; exact R_le _ _⟩
  rw [hk.1, ← e2, ← e4, Nat.pow_add, Nat.mul_mul_mul_comm]

theorem read_big {x : Nat} (hr : real x) (h : ¬ fin x) : Ieee.double.read x = .infinity (ng x) := by
  unfold fin at h; unfold real at hr
  exact read_inf (by omega)
theorem key_big {x : Nat} (hr : real x) (h : ¬ fin x) : key x = sv (ng x) 9218868437227405312 := by
  unfold fin at h; unfold real at hr
  rw [key_sv, show rung x = 9218868437227405312 from by omega]
theorem inf_word (s : Bool) : key (Ieee.double.write (.infinity s)) = sv s 9218868437227405312 := by
  show key (Ieee.double.word s Ieee.double.infRung) = _
  rw [ir]
  exact (key_word s _ (by omega)).1

theorem add_inf_left {x y q : Nat} (hx : real x) (hxi : ¬ fin x) (h : floatBits .add .f64 x y = some q) : key q = key x := by
  simp only [floatBits, Ieee.Format.add] at h
  have e : FloatKind.f64.format = Ieee.double := rfl
  rw [e, read_big hx hxi] at h
  rw [key_big hx hxi, ← inf_word]
  cases hy : Ieee.double.read y with
  | number t n j => rw [hy] at h; simp only [Ieee.Datum.sum, Option.map_some] at h; injection h with h; rw [h]
  | infinity t =>
    rw [hy] at h
    simp only [Ieee.Datum.sum] at h
    split at h
    · simp only [Option.map_some] at h; injection h with h; rw [h]
    · cases h
  | nan t n => rw [hy] at h; cases h

theorem sum_comm (a b : Ieee.Datum) : a.sum b = b.sum a := by
  cases a with
  | nan => cases b <;> rfl
  | infinity s =>
    cases b with
    | nan => rfl
    | number => rfl
    | infinity t => cases s <;> cases t <;> rfl
  | number s m i =>
    cases b with
    | nan => rfl
    | infinity => rfl
    | number t n j => simp only [Ieee.Datum.sum]; rw [Int.min_comm i j, Int.add_comm, Bool.and_comm]
theorem add_comm' (x y : Nat) : floatBits .add .f64 x y = floatBits .add .f64 y x := by
  simp only [floatBits, Ieee.Format.add]; rw [sum_comm]

theorem val_mono {x x' : Nat} (h : key x ≤ key x') : val x ≤ val x' := by
  unfold key at h
  unfold val sv
  have m1 := @M_le (rung x) (rung x')
  have m2 := @M_le (rung x') (rung x)
  have z1 := @M_le (rung x) 0
  have z2 := @M_le (rung x') 0
  rw [M_zero] at z1 z2
  cases hs : ng x <;> cases ht : ng x' <;> simp only [hs, ht, Bool.false_eq_true, if_false, if_true] at h ⊢
  · have := m1 (by omega); omega
  · have := z1 (by omega); have := z2 (by omega); omega
  · omega
  · have := m2 (by omega); omega

theorem add_mono {x x' y q q' : Nat} (hx : real x) (hx' : real x') (hy : real y) (h : key x ≤ key x') (h1 : floatBits .add .f64 x y = some q) (h2 : floatBits .add .f64 x' y = some q') : key q ≤ key q' := by
  have hq := floatBits_real (.inl rfl) h1
  have hq' := floatBits_real (.inl rfl) h2
  by_cases hyf : fin y
  · by_cases hxf : fin x
    · by_cases hxf' : fin x'
      · obtain ⟨r, e1, e2, _⟩ := add_fin hxf hyf
        obtain ⟨r', e3, e4, _⟩ := add_fin hxf' hyf
        rw [h1] at e1; rw [h2] at e3
        injection e1 with e1; injection e3 with e3
        subst e1; subst e3
        rw [e2, e4]
        exact RI_mono (by have := val_mono h; omega)
      · have e := add_inf_left hx' hxf' h2
        have k := key_big hx' hxf'
        cases hs : ng x' with
        | false => rw [hs] at k; have := (key_bd hq).2; rw [e, k]; exact this
        | true =>
          rw [hs] at k
          have k' : key x' = -9218868437227405312 := k
          unfold fin at hxf
          unfold key at h k'
          split at h <;> omega
    · have e := add_inf_left hx hxf h1
      have k := key_big hx hxf
      cases hs : ng x with
      | true => rw [hs] at k; have := (key_bd hq').1; rw [e, k]; exact this
      | false =>
        rw [hs] at k
        have k' : key x = 9218868437227405312 := k
        by_cases hxf' : fin x'
        · unfold fin at hxf'
          have : key x' < 9218868437227405312 := by unfold key; split <;> omega
          omega
        · have e2 := add_inf_left hx' hxf' h2
          rw [e, e2]; exact h
  · rw [add_comm'] at h1 h2
    rw [add_inf_left hy hyf h1, add_inf_left hy hyf h2]
    exact Int.le_refl _

theorem ng4 : ng 4616189618054758400 = false := by decide
theorem fin4 : fin 4616189618054758400 := by unfold fin rung; omega
theorem mul4_fin {s : Nat} (h : fin s) : ∃ r, floatBits .mul .f64 4616189618054758400 s = some r ∧ key r = sv (ng s) (R 1074 (M (rung 4616189618054758400) * M (rung s))) := by
  obtain ⟨r, h1, h2, _⟩ := mul_fin fin4 h
  exact ⟨r, h1, by rw [h2, ng4, Bool.false_xor]⟩
theorem mul4_inf {s : Nat} (hr : real s) (h : ¬ fin s) : ∃ r, floatBits .mul .f64 4616189618054758400 s = some r ∧ key r = key s := by
  have e4 : Ieee.double.read 4616189618054758400 = .number false 4503599627370496 (-50) := by decide +kernel
  refine ⟨Ieee.double.write (.infinity (ng s)), ?_, by rw [inf_word, key_big hr h]⟩
  simp only [floatBits, Ieee.Format.mul]
  have e : FloatKind.f64.format = Ieee.double := rfl
  rw [e, e4, read_big hr h]
  simp only [Ieee.Datum.product]
  rw [if_neg (by omega), Bool.xor_false]; rfl
theorem mul4_mono {s s' p p' : Nat} (hs : real s) (hs' : real s') (h : key s ≤ key s') (h1 : floatBits .mul .f64 4616189618054758400 s = some p) (h2 : floatBits .mul .f64 4616189618054758400 s' = some p') : key p ≤ key p' := by
  have hp := floatBits_real (.inr (.inr rfl)) h1
  have hp' := floatBits_real (.inr (.inr rfl)) h2
  by_cases hf : fin s
  · obtain ⟨r, e1, e2⟩ := mul4_fin hf
    rw [h1] at e1; injection e1 with e1; subst e1
    by_cases hf' : fin s'
    · obtain ⟨r', e3, e4⟩ := mul4_fin hf'
      rw [h2] at e3; injection e3 with e3; subst e3
      rw [e2, e4]
      have hm : ∀ a b : Nat, a ≤ b → R 1074 (M (rung 4616189618054758400) * a) ≤ R 1074 (M (rung 4616189618054758400) * b) := fun a b hab => R_mono (Nat.mul_le_mul_left _ hab)
      have := sv_mono (f := fun a => R 1074 (M (rung 4616189618054758400) * a)) hm (val_mono h)
      unfold val at this
      rw [sv_sign _ _ (fun a => R 1074 (M (rung 4616189618054758400) * a)) (by simp [R_zero]), sv_sign _ _ (fun a => R 1074 (M (rung 4616189618054758400) * a)) (by simp [R_zero])] at this
      exact this
    · obtain ⟨r', e3, e4⟩ := mul4_inf hs' hf'
      rw [h2] at e3; injection e3 with e3; subst e3
      have k := key_big hs' hf'
      cases hg : ng s' with
      | false => rw [hg] at k; have := (key_bd hp).2; rw [e4, k]; exact this
      | true =>
        rw [hg] at k
        have k' : key s' = -9218868437227405312 := k
        unfold fin at hf
        have : -9218868437227405312 < key s := by unfold key; split <;> omega
        omega
  · obtain ⟨r, e1, e2⟩ := mul4_inf hs hf
    rw [h1] at e1; injection e1 with e1; subst e1
    have k := key_big hs hf
    cases hg : ng s with
    | true => rw [hg] at k; have := (key_bd hp').1; rw [e2, k]; exact this
    | false =>
      rw [hg] at k
      have k' : key s = 9218868437227405312 := k
      by_cases hf' : fin s'
      · unfold fin at hf'
        have : key s' < 9218868437227405312 := by unfold key; split <;> omega
        omega
      · obtain ⟨r', e3, e4⟩ := mul4_inf hs' hf'
        rw [h2] at e3; injection e3 with e3; subst e3
        rw [e2, e4]; exact h

/-- The least place, as an exponent; 1, in units of the least place. -/
def E : Nat := 1074
theorem E_eq : E = 1074 := rfl
def U : Nat := 2 ^ E
theorem U_pos : 0 < U := Nat.two_pow_pos _

theorem cut_up (s : Bool) (n drop : Nat) : Ieee.Toward.cut .up s n drop = n / 2 ^ drop + if s = false ∧ n % 2 ^ drop ≠ 0 then 1 else 0 := by
  unfold Ieee.Toward.cut
  simp only [Nat.shiftLeft_eq, Nat.one_mul]
  by_cases h : drop ≤ n.log2 + 2
  · rw [Nat.min_eq_left h]
    cases s <;> by_cases h0 : n % 2 ^ drop = 0 <;> simp [h0]
  · rw [Nat.min_eq_right (by omega)]
    have hn : n < 2 ^ (n.log2 + 1) := Nat.lt_log2_self
    have hp : 2 ^ (n.log2 + 2) = 2 * 2 ^ (n.log2 + 1) := by rw [Nat.pow_succ 2 (n.log2 + 1)]; omega
    have hd : 2 ^ (n.log2 + 2) ≤ 2 ^ drop := Nat.pow_le_pow_right (by omega) (by omega)
    generalize 2 ^ (n.log2 + 2) = G at *
    generalize 2 ^ (n.log2 + 1) = H at *
    generalize 2 ^ drop = P at *
    rw [Nat.div_eq_of_lt (show n < G by omega), Nat.mod_eq_of_lt (show n < G by omega), Nat.div_eq_of_lt (show n < P by omega), Nat.mod_eq_of_lt (show n < P by omega)]
    cases s <;> by_cases h0 : n = 0 <;> simp [h0]

/-- The ceiling of a signed magnitude, as a magnitude. -/
def cm (s : Bool) (m : Nat) : Nat := m / U + if s = false ∧ m % U ≠ 0 then 1 else 0

theorem cut_cm (s : Bool) (m a : Nat) : Ieee.Toward.cut .up s (m <<< (-1074 + (a : Int)).toNat) (-(-1074 + (a : Int))).toNat = cm s (m * 2 ^ a) := by
  rw [cut_up, Nat.shiftLeft_eq]
  unfold cm U
  have hE := E_eq
  rcases Nat.le_total a E with h | h
  · have e1 : (-1074 + (a : Int)).toNat = 0 := by omega
    have e2 : (-(-1074 + (a : Int))).toNat = E - a := by omega
    rw [e1, e2, Nat.pow_zero, Nat.mul_one]
    have e3 : (2 : Nat) ^ E = 2 ^ (E - a) * 2 ^ a := by rw [← Nat.pow_add, Nat.sub_add_cancel h]
    rw [e3, Nat.mul_div_mul_right _ _ (Nat.two_pow_pos a), Nat.mul_mod_mul_right]
    have e4 : (m % 2 ^ (E - a) * 2 ^ a ≠ 0) ↔ (m % 2 ^ (E - a) ≠ 0) := by
      have := Nat.two_pow_pos a
      constructor
      · intro hh e; rw [e] at hh; simp at hh
      · intro hh e; rcases Nat.mul_eq_zero.1 e with e | e <;> omega
    simp only [e4]
  · have e1 : (-1074 + (a : Int)).toNat = a - E := by omega
    have e2 : (-(-1074 + (a : Int))).toNat = 0 := by omega
    rw [e1, e2, Nat.pow_zero, Nat.div_one, Nat.mod_one]
    have e3 : m * 2 ^ a = m * 2 ^ (a - E) * 2 ^ E := by rw [Nat.mul_assoc, ← Nat.pow_add, Nat.sub_add_cancel h]
    rw [e3, Nat.mul_div_cancel _ (Nat.two_pow_pos E), Nat.mul_mod_left]

theorem ceil_fin {x : Nat} (h : fin x) : key (ceilD x) = sv (ng x) (R 0 (cm (ng x) (M (rung x)) * U)) := by
  obtain ⟨m, a, e1, e2⟩ := read_fin h
  unfold ceilD
  show key (Ieee.double.write ((Ieee.double.read x).integral .up)) = _
  rw [e1]
  simp only [Ieee.Datum.integral]
  rw [cut_cm, e2]
  show key (Ieee.double.nearest _ _ _) = _
  rw [nearest_R _ _ E 0 0 (by have := E_eq; omega)]
  exact (key_word _ _ (R_le _ _)).1
theorem ceil_inf {x : Nat} (hr : real x) (h : ¬ fin x) : key (ceilD x) = key x := by
  unfold ceilD
  show key (Ieee.double.write ((Ieee.double.read x).integral .up)) = _
  rw [read_big hr h, key_big hr h]
  exact inf_word _
theorem cm_mono (s : Bool) {m n : Nat} (h : m ≤ n) : cm s m ≤ cm s n := by
  have hq : m / U ≤ n / U := Nat.div_le_div_right h
  have e1 := Nat.div_add_mod m U
  have e2 := Nat.div_add_mod n U
  unfold cm
  rcases Nat.lt_or_eq_of_le hq with h1 | h1
  · split <;> split <;> omega
  · rw [h1] at e1 ⊢
    split
    · rename_i h2
      rw [if_pos ⟨h2.1, by omega⟩]; exact Nat.le_refl _
    · omega
theorem ceil_mono {x x' : Nat} (hx : real x) (hx' : real x') (h : key x ≤ key x') : key (ceilD x) ≤ key (ceilD x') := by
  have hb := key_bd (ceilD_real x hx)
  have hb' := key_bd (ceilD_real x' hx')
  by_cases hf : fin x
  · by_cases hf' : fin x'
    · rw [ceil_fin hf, ceil_fin hf']
      unfold key at h
      unfold sv
      have r0 : R 0 (cm (ng x) 0 * U) = 0 := by unfold cm; rw [Nat.zero_div, Nat.zero_mod, if_neg (by simp)]; simp [R_zero]
      have r0' : R 0 (cm (ng x') 0 * U) = 0 := by unfold cm; rw [Nat.zero_div, Nat.zero_mod, if_neg (by simp)]; simp [R_zero]
      have up : ∀ s {m n : Nat}, m ≤ n → R 0 (cm s (M m) * U) ≤ R 0 (cm s (M n) * U) := fun s _ _ hmn => R_mono (Nat.mul_le_mul_right _ (cm_mono s (M_le hmn)))
      cases hs : ng x <;> cases ht : ng x' <;> simp only [hs, ht, Bool.false_eq_true, if_false, if_true] at h r0 r0' ⊢
      · have := @up false _ _ (show rung x ≤ rung x' by omega); omega
      · have a1 : rung x = 0 := by omega
        have a2 : rung x' = 0 := by omega
        rw [a1, a2, M_zero, r0, r0']; omega
      · omega
      · have := @up true _ _ (show rung x' ≤ rung x by omega); omega
    · have k := key_big hx' hf'
      have e := ceil_inf hx' hf'
      cases hg : ng x' with
      | false => rw [hg] at k; rw [e, k]; exact hb.2
      | true =>
        rw [hg] at k
        have k' : key x' = -9218868437227405312 := k
        unfold fin at hf
        have : -9218868437227405312 < key x := by unfold key; split <;> omega
        omega
  · have k := key_big hx hf
    have e := ceil_inf hx hf
    cases hg : ng x with
    | true => rw [hg] at k; rw [e, k]; exact hb'.1
    | false =>
      rw [hg] at k
      have k' : key x = 9218868437227405312 := k
      by_cases hf' : fin x'
      · unfold fin at hf'
        have : key x' < 9218868437227405312 := by unfold key; split <;> omega
        omega
      · rw [e, ceil_inf hx' hf']; exact h

/-- Between 2 and 60 the integer is the whole part. -/
theorem toInt_mid {c : Nat} (h1 : key 4611686018427387904 < key c) (h2 : key c < key 4633641066610819072) : floatToIntVal .f64 c .i64 = some ((M (rung c) / U : Nat) : Int) := by
  rw [key2] at h1
  rw [key60] at h2
  have hn : ng c = false := by
    cases h : ng c with
    | false => rfl
    | true => exfalso; unfold key at h1; rw [h] at h1; simp only [if_true] at h1; omega
  have hk : key c = rung c := by unfold key; rw [hn]; rfl
  rw [hk] at h1 h2
  have hE := E_eq
  have hr : rung c / 4503599627370496 - 1 < E := by omega
  have hM : M (rung c) = (4503599627370496 + rung c % 4503599627370496) * 2 ^ (rung c / 4503599627370496 - 1) := by unfold M; rw [if_neg (by omega)]
  have hm2 : 4503599627370496 + rung c % 4503599627370496 < 9007199254740992 := by omega
  have e : FloatKind.f64.decode c = .number false (4503599627370496 + rung c % 4503599627370496) (-1074 + (rung c / 4503599627370496 - 1 : Nat)) := by
    show Ieee.double.read c = _
    rw [read_eq, if_neg (by omega), if_pos (by omega), hn]
  generalize 4503599627370496 + rung c % 4503599627370496 = m at e hM hm2
  generalize rung c / 4503599627370496 - 1 = i at e hr hM
  have e2 : (FloatKind.f64.decode c).toInt .zero = some ((Ieee.Toward.cut .zero false m (E - i) : Nat) : Int) := by
    rw [e]
    simp only [Ieee.Datum.toInt, Ieee.Datum.integral]
    have a1 : (-1074 + (i : Int)).toNat = 0 := by omega
    have a2 : (-(-1074 + (i : Int))).toNat = E - i := by omega
    rw [a1, a2, signed_eq]
    simp [sv]
  have e3 : Ieee.Toward.cut .zero false m (E - i) = M (rung c) / U := by
    have hd : (2 : Nat) ^ E = 2 ^ (E - i) * 2 ^ i := by rw [← Nat.pow_add, Nat.sub_add_cancel (by omega)]
    unfold U
    rw [hM, hd, Nat.mul_div_mul_right _ _ (Nat.two_pow_pos i)]
    have hu := cut_up true m (E - i)
    rw [if_neg (by simp)] at hu
    unfold Ieee.Toward.cut at hu ⊢
    simpa using hu
  have e4 : M (rung c) / U ≤ m := by
    rw [← e3]
    simp only [Ieee.Toward.cut, Bool.toNat_false, Nat.add_zero]
    exact Nat.div_le_self _ _
  unfold floatToIntVal
  rw [e2, e3]
  simp only
  rw [if_pos]
  have : IntKind.i64.min = -9223372036854775808 := rfl
  have : IntKind.i64.max = 9223372036854775807 := rfl
  generalize M (rung c) / U = k at *
  omega

theorem M2 : M 4611686018427387904 = 2 * U := by
  have hE := E_eq
  obtain ⟨D, hD⟩ : ∃ D, D = 1023 := ⟨_, rfl⟩
  have h := M_pow D 4503599627370496 (by omega) (by omega)
  rw [show D * 4503599627370496 + 4503599627370496 = 4611686018427387904 from by omega] at h
  rw [h]
  unfold U
  rw [show E = 51 + D from by omega, Nat.pow_add, ← Nat.mul_assoc]
theorem M60 : M 4633641066610819072 = 60 * U := by
  have hE := E_eq
  obtain ⟨D, hD⟩ : ∃ D, D = 1027 := ⟨_, rfl⟩
  have h := M_pow D 8444249301319680 (by omega) (by omega)
  rw [show D * 4503599627370496 + 8444249301319680 = 4633641066610819072 from by omega] at h
  rw [h]
  unfold U
  rw [show E = 47 + D from by omega, Nat.pow_add, ← Nat.mul_assoc]
theorem mid_bd {c : Nat} (h1 : key 4611686018427387904 < key c) (h2 : key c < key 4633641066610819072) : 2 ≤ M (rung c) / U ∧ M (rung c) / U ≤ 60 := by
  rw [key2] at h1
  rw [key60] at h2
  have hn : ng c = false := by
    cases h : ng c with
    | false => rfl
    | true => exfalso; unfold key at h1; rw [h] at h1; simp only [if_true] at h1; omega
  have hk : key c = rung c := by unfold key; rw [hn]; rfl
  rw [hk] at h1 h2
  have a := M_le (show 4611686018427387904 ≤ rung c by omega)
  have b := M_le (show rung c ≤ 4633641066610819072 by omega)
  rw [M2] at a
  rw [M60] at b
  exact ⟨(Nat.le_div_iff_mul_le U_pos).2 a, by
    have : M (rung c) / U ≤ 60 * U / U := Nat.div_le_div_right b
    rwa [Nat.mul_div_cancel _ U_pos] at this⟩

theorem cutI_bd (c : Nat) : 2 ≤ cutI c ∧ cutI c ≤ 60 := by
  unfold cutI
  split
  · omega
  · split
    · omega
    · rename_i h1 h2
      rw [toInt_mid (by omega) (by omega), Option.getD_some]
      have := mid_bd (c := c) (by omega) (by omega)
      omega
theorem cutI_mono {c c' : Nat} (h : key c ≤ key c') : cutI c ≤ cutI c' := by
  have hb := cutI_bd c
  have hb' := cutI_bd c'
  by_cases h6 : key 4633641066610819072 ≤ key c'
  · have : cutI c' = 60 := by unfold cutI; rw [if_pos h6]
    omega
  · by_cases h2 : key c ≤ key 4611686018427387904
    · have : cutI c = 2 := by
        unfold cutI
        have k2 := key2
        have k6 := key60
        rw [if_neg (by omega), if_pos h2]
      omega
    · unfold cutI
      rw [if_neg (by omega), if_neg h2, if_neg h6, if_neg (by omega), toInt_mid (by omega) (by omega), toInt_mid (by omega) (by omega), Option.getD_some, Option.getD_some]
      have k2 := key2
      have hn : ∀ z, key 4611686018427387904 < key z → key z = rung z := by
        intro z hz
        cases hg : ng z with
        | false => unfold key; rw [hg]; rfl
        | true => exfalso; rw [k2] at hz; unfold key at hz; rw [hg] at hz; simp only [if_true] at hz; omega
      have a := hn c (by omega)
      have b := hn c' (by omega)
      have : M (rung c) / U ≤ M (rung c') / U := Nat.div_le_div_right (M_le (by omega))
      omega

theorem waitF_bd (m s : Nat) : 2 ≤ waitF m s ∧ waitF m s ≤ 60 := by
  unfold waitF
  split
  · omega
  · exact cutI_bd _

theorem waitQ_parts {m s q : Nat} (h : waitQ m s = some q) : ∃ p, floatBits .mul .f64 4616189618054758400 s = some p ∧ floatBits .add .f64 m p = some q ∧ real m ∧ real s ∧ real p := by
  unfold waitQ at h
  obtain ⟨p, h1, h2⟩ := Option.bind_eq_some_iff.1 h
  refine ⟨p, h1, h2, ?_, ?_, floatBits_real (.inr (.inr rfl)) h1⟩
  · by_cases hr : real m
    · exact hr
    · rw [floatBits_nan (.inl hr)] at h2; cases h2
  · by_cases hr : real s
    · exact hr
    · rw [floatBits_nan (.inr hr)] at h1; cases h1

/-- One does not wait for less when the mean is greater .. -/
theorem wait_up_mean {m a s : Nat} (hq : waitQ m s ≠ none) (ha : real a) (h : key m ≤ key a) : waitF m s ≤ waitF a s := by
  obtain ⟨q, hq⟩ := Option.ne_none_iff_exists'.1 hq
  obtain ⟨p, h1, h2, hm, hs, hp⟩ := waitQ_parts hq
  have hb := waitF_bd m s
  cases hq' : waitQ a s with
  | none => have : waitF a s = 60 := by unfold waitF; rw [hq']
            omega
  | some q' =>
    obtain ⟨p', h1', h2', _, _, _⟩ := waitQ_parts hq'
    rw [h1] at h1'; injection h1' with h1'; subst h1'
    have := add_mono hm ha hp h h2 h2'
    unfold waitF
    rw [hq, hq']
    exact cutI_mono (ceil_mono (floatBits_real (.inl rfl) h2) (floatBits_real (.inl rfl) h2') this)
/-- .. or the spread. -/
theorem wait_up_spread {m s b : Nat} (hq : waitQ m s ≠ none) (hb : real b) (h : key s ≤ key b) : waitF m s ≤ waitF m b := by
  obtain ⟨q, hq⟩ := Option.ne_none_iff_exists'.1 hq
  obtain ⟨p, h1, h2, hm, hs, hp⟩ := waitQ_parts hq
  have hbd := waitF_bd m s
  cases hq' : waitQ m b with
  | none => have : waitF m b = 60 := by unfold waitF; rw [hq']
            omega
  | some q' =>
    obtain ⟨p', h1', h2', _, _, hp'⟩ := waitQ_parts hq'
    have h3 := mul4_mono hs hb h h1 h1'
    rw [add_comm'] at h2 h2'
    have := add_mono hp hp' hm h3 h2 h2'
    unfold waitF
    rw [hq, hq']
    exact cutI_mono (ceil_mono (floatBits_real (.inl rfl) h2) (floatBits_real (.inl rfl) h2') this)
end Go.Proofs.Ytmopjmnpbmkjpaa
