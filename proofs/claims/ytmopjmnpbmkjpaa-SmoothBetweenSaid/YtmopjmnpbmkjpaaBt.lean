/- Plain facts: a mean by a part from 0 to 1 lies between both, but for a slack. -/
import Derived.Test.YtmopjmnpbmkjpaaRb
namespace Go.Proofs.Ytmopjmnpbmkjpaa
open Go.RowKit Fl

/-- 1e150's rung. -/
def k0 : Nat := 6850974717710472879
theorem k0_eq : k0 = 6850974717710472879 := rfl
theorem k0_inf : k0 + 4503599627370496 ≤ 9218868437227405312 := by unfold k0; omega

theorem M_small {d : Nat} (h : d < 9007199254740992) : M d = d := by
  by_cases h1 : d < 4503599627370496
  · unfold M; rw [if_pos h1]
  · have := M_pow 0 d (by omega) (by omega)
    rw [Nat.zero_mul, Nat.zero_add, Nat.pow_zero, Nat.mul_one] at this
    exact this
theorem M_add (r j : Nat) (h : 4503599627370496 ≤ r) : M (r + j * 4503599627370496) = M r * 2 ^ j := by
  unfold M
  rw [if_neg (by omega), if_neg (by omega)]
  have e1 : (r + j * 4503599627370496) / 4503599627370496 - 1 = (r / 4503599627370496 - 1) + j := by omega
  have e2 : (r + j * 4503599627370496) % 4503599627370496 = r % 4503599627370496 := by omega
  rw [e1, e2, Nat.pow_add, Nat.mul_assoc]
/-- A power of two that is not above a word's magnitude is a word's. -/
theorem M_two (k : Nat) : ∃ r, M r = 2 ^ k := by
  by_cases h : k < 52
  · refine ⟨2 ^ k, M_small ?_⟩
    have : 2 ^ k < 2 ^ 52 := Nat.pow_lt_pow_right (by omega) h
    omega
  · refine ⟨(k - 52) * 4503599627370496 + 4503599627370496, ?_⟩
    rw [M_pow _ _ (by omega) (by omega), show (4503599627370496 : Nat) = 2 ^ 52 from rfl, ← Nat.pow_add, show 52 + (k - 52) = k from by omega]
theorem R_two {k r0 : Nat} (h : 2 ^ k ≤ M r0) (h0 : r0 ≤ 9218868437227405312) : M (R 0 (2 ^ k)) = 2 ^ k := by
  obtain ⟨r, hr⟩ := M_two k
  have hle : r ≤ r0 := by
    rcases Nat.lt_or_ge r0 r with h1 | h1
    · have := M_lt h1; omega
    · exact h1
  rw [← hr, R_M (by omega)]
theorem R_scale (L V : Nat) : R L (V * 2 ^ L) = R 0 V := by
  unfold R
  by_cases h : V = 0
  · subst h; simp
  · have hne : V * 2 ^ L ≠ 0 := by have := Nat.two_pow_pos L; intro e; rcases Nat.mul_eq_zero.1 e with e | e <;> omega
    rw [if_neg h, if_neg hne, log2_mul_pow V L h]
    have e : max (V.log2 + L - 52) L = max (V.log2 - 52) 0 + L := by omega
    rw [e, rne_shift, Nat.add_sub_cancel, Nat.sub_zero]

/-- What is rounded up is at most a slack more. -/
theorem near {d t sl : Nat} (hdt : d ≤ t) (ht : t ≤ M (k0 + 4503599627370496)) (hsl : R 1074 (M 4472406533629990549 * M (R 0 t)) = sl) : M (R 0 d) ≤ d + M sl := by
  have hk := k0_eq
  have hE := E_eq
  by_cases hd : d < 9007199254740992
  · have e : R 0 d = d := by
      have := R_M (r := d) (by omega)
      rwa [M_small hd] at this
    rw [e, M_small hd]
    exact Nat.le_add_right _ _
  · have h0 : d ≠ 0 := by omega
    have hl : 53 ≤ d.log2 := (Nat.le_log2 h0).2 (by omega)
    obtain ⟨D, hD⟩ : ∃ D, D = d.log2 - 52 := ⟨_, rfl⟩
    have hlo : 2 ^ (D + 52) ≤ d := by rw [show D + 52 = d.log2 from by omega]; exact Nat.log2_self_le h0
    have hhi : d < 2 ^ (D + 53) := by rw [show D + 53 = d.log2 + 1 from by omega]; exact Nat.lt_log2_self
    have hp : 0 < 2 ^ D := Nat.two_pow_pos D
    -- the rounded
    have h1 : M (R 0 d) ≤ rne d D * 2 ^ D := by
      have hr1 : 4503599627370496 ≤ rne d D := by
        refine Nat.le_trans ?_ (rne_ge _ _)
        rw [Nat.le_div_iff_mul_le hp, show (4503599627370496 : Nat) = 2 ^ 52 from rfl, ← Nat.pow_add, Nat.add_comm 52]
        exact hlo
      have hr2 : rne d D ≤ 9007199254740992 := by
        refine Nat.le_trans (rne_le _ _) ?_
        have : d / 2 ^ D < 9007199254740992 := by
          rw [Nat.div_lt_iff_lt_mul hp, show (9007199254740992 : Nat) = 2 ^ 53 from rfl, ← Nat.pow_add, Nat.add_comm 53]
          exact hhi
        omega
      rw [← M_pow D _ hr1 hr2]
      apply M_le
      unfold R
      rw [if_neg h0, show max (d.log2 - 52) 0 = D from by omega, Nat.sub_zero]
      exact Nat.min_le_left _ _
    have h2 := (rne_near d D).1
    -- the slack
    have h3 : 2 ^ (D + 22) ≤ M sl := by
      have a1 : 2 ^ (D + 52) ≤ M (R 0 t) := by
        have := R_mono (L := 0) (Nat.le_trans hlo hdt)
        have e := R_two (k := D + 52) (r0 := k0 + 4503599627370496) (Nat.le_trans hlo (Nat.le_trans hdt ht)) (by omega)
        rw [← e]
        exact M_le this
      have a2 : 2 ^ (E - 30) ≤ M 4472406533629990549 := by
        have := M_pow (E - 82) 4503599627370496 (by omega) (by omega)
        have e : 2 ^ (E - 30) = 4503599627370496 * 2 ^ (E - 82) := by
          rw [show (4503599627370496 : Nat) = 2 ^ 52 from rfl, ← Nat.pow_add, show 52 + (E - 82) = E - 30 from by omega]
        rw [e, ← this]
        apply M_le
        obtain ⟨X, hX⟩ : ∃ X, X = E - 82 := ⟨_, rfl⟩
        rw [← hX]
        omega
      have a3 : 2 ^ (D + 22) * 2 ^ E ≤ M 4472406533629990549 * M (R 0 t) := by
        refine Nat.le_trans ?_ (Nat.mul_le_mul a2 a1)
        rw [← Nat.pow_add, ← Nat.pow_add, show D + 22 + E = E - 30 + (D + 52) from by omega]
        exact Nat.le_refl _
      have a4 := R_mono (L := E) a3
      rw [R_scale, hE, hsl] at a4
      have a5 : 2 ^ (D + 22) ≤ M (k0 + 4503599627370496) := Nat.le_trans (Nat.pow_le_pow_right (by omega) (by omega)) (Nat.le_trans hlo (Nat.le_trans hdt ht))
      have e := R_two (k := D + 22) (r0 := k0 + 4503599627370496) a5 k0_inf
      rw [← e]
      exact M_le a4
    have h4 : 2 ^ D / 2 ≤ 2 ^ (D + 22) := by
      have : 2 ^ D ≤ 2 ^ (D + 22) := Nat.pow_le_pow_right (by omega) (by omega)
      omega
    omega

theorem val_abs (x : Nat) : val (absF x) = (M (rung x) : Int) := by unfold val; rw [ng_abs, rung_abs]; simp only [sv, Bool.false_eq_true, if_false]
theorem abs_natAbs (x : Nat) : M (rung x) = (val x).natAbs := by unfold val sv; split <;> omega
theorem val_key {x y : Nat} (h : key x = key y) : val x = val y := by
  have a := val_mono (x := x) (x' := y) (by omega)
  have b := val_mono (x := y) (x' := x) (by omega)
  omega
theorem natAbs_key (x : Nat) : (key x).natAbs = rung x := by unfold key; split <;> omega
theorem RI_abs (v : Int) : (RI v).natAbs = R 0 v.natAbs := by unfold RI sv; split <;> omega
theorem fin_of_key {x : Nat} (h : (key x).natAbs < 9218868437227405312) : fin x := by unfold fin; rw [natAbs_key] at h; exact h
/-- The value of a word whose key is a rounded value's. -/
theorem val_RI {x : Nat} {v : Int} (h : key x = RI v) : val x = sv (decide (v < 0)) (M (R 0 v.natAbs)) := by
  have h1 : rung x = R 0 v.natAbs := by rw [← natAbs_key, h, RI_abs]
  by_cases h0 : rung x = 0
  · have e : R 0 v.natAbs = 0 := by omega
    unfold val
    rw [h0, e, M_zero, sv_zero, sv_zero]
  · have hs : ng x = decide (v < 0) := by
      unfold key at h
      unfold RI sv at h
      rw [h1] at h h0
      cases hx : ng x <;> cases hv : decide (v < 0) <;> simp only [hx, hv, Bool.false_eq_true, if_false, if_true] at h ⊢ <;> omega
    unfold val
    rw [hs, h1]

/-- What the law asks of a mean: old, now, part; the slack and the limits' words. -/
structure Btw (o n p : Nat) : Prop where
  fo : rung o ≤ k0
  fn : rung n ≤ k0
  rp : real p
  p0 : 0 ≤ key p
  p1 : key p ≤ 4607182418800017408

theorem R_bound {V r : Nat} (h : V ≤ M r) (hr : r ≤ 9218868437227405312) : R 0 V ≤ r := by
  have := R_mono (L := 0) h
  rwa [R_M hr] at this
theorem two_k0 : M k0 + M k0 ≤ M (k0 + 4503599627370496) := by
  have := M_add k0 1 (by unfold k0; omega)
  rw [Nat.one_mul, Nat.pow_one] at this
  omega
theorem four_k0 : M k0 + M (k0 + 4503599627370496) ≤ M (k0 + 2 * 4503599627370496) := by
  have := two_k0
  have h1 := M_add k0 1 (by unfold k0; omega)
  have h2 := M_add k0 2 (by unfold k0; omega)
  rw [Nat.one_mul, Nat.pow_one] at h1
  rw [h2, h1]
  omega
theorem M_one : M 4607182418800017408 = 1 * 2 ^ E := by
  have hE := E_eq
  obtain ⟨D, hD⟩ : ∃ D, D = 1022 := ⟨_, rfl⟩
  have h := M_pow D 4503599627370496 (by omega) (by omega)
  rw [show D * 4503599627370496 + 4503599627370496 = 4607182418800017408 from by omega] at h
  rw [h, show (4503599627370496 : Nat) = 2 ^ 52 from rfl, ← Nat.pow_add, show 52 + D = E from by omega, Nat.one_mul]

/-- The mean of words that are no edges: far = now - old, step, mean. -/
theorem mean_steps {o n p : Nat} (h : Btw o n p) : ∃ far step m, meanQ o n p = some m ∧ meanF o n p = m ∧ real m ∧ key far = RI (val n - val o) ∧
    ((0 ≤ val step ∧ val step ≤ val far) ∨ (val far ≤ val step ∧ val step ≤ 0)) ∧ key m = RI (val o + val step) ∧
    (key p = 0 → val step = 0) ∧ (key p = 4607182418800017408 → val step = val far) := by
  have hk := k0_eq
  have fo : fin o := by have := h.fo; unfold fin; omega
  have fn : fin n := by have := h.fn; unfold fin; omega
  have fp : fin p := by
    have := h.p0; have := h.p1
    exact fin_of_key (by omega)
  obtain ⟨far, e1, e2, e3⟩ := sub_fin fn fo
  have hfar : rung far ≤ k0 + 4503599627370496 := by
    rw [← natAbs_key, e2, RI_abs]
    apply R_bound _ (by omega)
    have a := M_le h.fo
    have b := M_le h.fn
    rw [abs_natAbs] at a b
    have := two_k0
    omega
  have ffar : fin far := by unfold fin; omega
  obtain ⟨step, g1, g2, g3⟩ := mul_fin fp ffar
  have hpr : M (rung p) ≤ M 4607182418800017408 := by
    apply M_le
    rw [← natAbs_key]
    have := h.p0; have := h.p1
    omega
  have hE := E_eq
  have hstep : rung step ≤ rung far := by
    rw [← natAbs_key step, g2]
    have e : (sv (ng p ^^ ng far) (R 1074 (M (rung p) * M (rung far)))).natAbs = R 1074 (M (rung p) * M (rung far)) := by unfold sv; split <;> omega
    rw [e]
    have h1 : M (rung p) * M (rung far) ≤ M (rung far) * 2 ^ E := by
      rw [M_one, Nat.one_mul] at hpr
      rw [Nat.mul_comm]
      exact Nat.mul_le_mul_left _ hpr
    have h2 := R_mono (L := E) h1
    rw [R_scale, R_M (by omega)] at h2
    rw [← hE]
    exact h2
  have hM := M_le hstep
  -- the sign of the step
  have hsgn : (0 ≤ val step ∧ val step ≤ val far) ∨ (val far ≤ val step ∧ val step ≤ 0) := by
    by_cases hs0 : rung step = 0
    · have : val step = 0 := by unfold val; rw [hs0, M_zero, sv_zero]
      rw [this]
      rcases Int.le_total 0 (val far) with hh | hh
      · exact .inl ⟨by omega, hh⟩
      · exact .inr ⟨hh, by omega⟩
    · have hr : R 1074 (M (rung p) * M (rung far)) = rung step := by
        rw [← natAbs_key step, g2]; unfold sv; split <;> omega
      have hp : ng p = false := by
        cases hg : ng p with
        | false => rfl
        | true =>
          have h0 := h.p0
          unfold key at h0
          rw [hg] at h0
          simp only [if_true] at h0
          have : rung p = 0 := by omega
          rw [this, M_zero, Nat.zero_mul, R_zero] at hr
          omega
      have hsg : ng step = ng far := by
        rw [hp, Bool.false_xor, hr] at g2
        unfold key sv at g2
        cases ha : ng step <;> cases hb : ng far <;> simp only [ha, hb, Bool.false_eq_true, if_false, if_true] at g2 ⊢ <;> omega
      unfold val sv
      rw [hsg]
      cases ng far <;> simp only [Bool.false_eq_true, if_false, if_true] <;> omega
  have fstep : fin step := by unfold fin; omega
  obtain ⟨m, k1, k2, k3⟩ := add_fin fo fstep
  have hq : meanQ o n p = some m := by unfold meanQ; rw [e1]; simp only [Option.bind_some]; rw [g1]; simp only [Option.bind_some]; exact k1
  refine ⟨far, step, m, hq, ?_, k3, e2, hsgn, k2, ?_, ?_⟩
  · unfold meanF
    rw [(nanB_false o).2 (fin_real fo), (nanB_false n).2 (fin_real fn), hq]; rfl
  · intro h0
    have : rung p = 0 := by rw [← natAbs_key, h0]; rfl
    have hr : rung step = 0 := by
      rw [← natAbs_key step, g2, this, M_zero, Nat.zero_mul, R_zero, sv_zero]; rfl
    unfold val; rw [hr, M_zero, sv_zero]
  · intro h1
    have hrp : rung p = 4607182418800017408 := by rw [← natAbs_key, h1]; rfl
    have hp : ng p = false := by
      cases hg : ng p with
      | false => rfl
      | true => unfold key at h1; rw [hg] at h1; simp only [if_true] at h1; omega
    rw [hp, hrp, Bool.false_xor, M_one, Nat.one_mul, Nat.mul_comm, ← hE, R_scale, R_M (by omega)] at g2
    exact val_key g2

/-- The slack: a word, of a value from 0 on; what far is rounded up by is at most that. -/
theorem slack_is {o n : Nat} (ho : rung o ≤ k0) (hn : rung n ≤ k0) : ∃ t sl, floatBits .add .f64 (absF o) (absF n) = some t ∧ floatBits .mul .f64 4472406533629990549 t = some sl ∧ fin sl ∧ 0 ≤ val sl ∧
    ∀ d : Nat, d ≤ (val o).natAbs + (val n).natAbs → (M (R 0 d) : Int) ≤ d + val sl := by
  have hk := k0_eq
  have fo : fin (absF o) := by unfold fin; rw [rung_abs]; omega
  have fn : fin (absF n) := by unfold fin; rw [rung_abs]; omega
  obtain ⟨t, e1, e2, e3⟩ := add_fin fo fn
  rw [val_abs, val_abs, abs_natAbs, abs_natAbs] at e2
  have hT : (((val o).natAbs : Int) + ((val n).natAbs : Int)).natAbs = (val o).natAbs + (val n).natAbs := by omega
  have hTb : (val o).natAbs + (val n).natAbs ≤ M (k0 + 4503599627370496) := by
    have a := M_le ho
    have b := M_le hn
    rw [abs_natAbs] at a b
    have := two_k0
    omega
  have hrt : rung t = R 0 ((val o).natAbs + (val n).natAbs) := by rw [← natAbs_key, e2, RI_abs, hT]
  have hrt2 : rung t ≤ k0 + 4503599627370496 := by rw [hrt]; exact R_bound hTb (by omega)
  have ft : fin t := by unfold fin; omega
  have fc : fin 4472406533629990549 := by unfold fin rung; omega
  obtain ⟨sl, g1, g2, g3⟩ := mul_fin fc ft
  have hc : ng 4472406533629990549 = false := by decide
  have hrc : rung 4472406533629990549 = 4472406533629990549 := by decide
  rw [hc, Bool.false_xor, hrc] at g2
  have hrs : rung sl = R 1074 (M 4472406533629990549 * M (rung t)) := by
    rw [← natAbs_key, g2]; unfold sv; split <;> omega
  have hE := E_eq
  have hsl : rung sl ≤ rung t := by
    rw [hrs]
    have h1 : M 4472406533629990549 * M (rung t) ≤ M (rung t) * 2 ^ E := by
      have hm : M 4472406533629990549 ≤ M 4607182418800017408 := M_le (by omega)
      rw [M_one, Nat.one_mul] at hm
      rw [Nat.mul_comm]
      exact Nat.mul_le_mul_left _ hm
    have h2 := R_mono (L := E) h1
    rw [R_scale, R_M (by omega)] at h2
    rw [← hE]
    exact h2
  have hv : val sl = (M (rung sl) : Int) := by
    by_cases h0 : rung sl = 0
    · unfold val; rw [h0, M_zero, sv_zero]; rfl
    · have hnt : ng t = false := by
        cases hg : ng t with
        | false => rfl
        | true =>
          exfalso
          have e2' := e2
          unfold key RI at e2'
          rw [hg] at e2'
          have hneg : ¬ (((val o).natAbs : Int) + ((val n).natAbs : Int) < 0) := by omega
          rw [hT] at e2'
          simp only [hneg, decide_false, if_true, sv, Bool.false_eq_true, if_false] at e2'
          have : rung t = 0 := by omega
          omega
      have hns : ng sl = false := by
        cases hg : ng sl with
        | false => rfl
        | true =>
          exfalso
          rw [hnt, ← hrs] at g2
          unfold key sv at g2
          rw [hg] at g2
          simp only [if_true, Bool.false_eq_true, if_false] at g2
          omega
      unfold val; rw [hns]; rfl
  refine ⟨t, sl, e1, g1, by unfold fin; omega, by rw [hv]; omega, fun d hd => ?_⟩
  have := near hd hTb (sl := rung sl) (by rw [hrs, hrt])
  rw [hv]
  omega

/-- THE LAW's PLAIN PART. -/
theorem between {o n p lo hi : Nat} (h : Btw o n p) (hlo : key lo = min (key o) (key n)) (hhi : key hi = max (key o) (key n)) :
    real (meanF o n p) ∧ (key p = 0 → key (meanF o n p) = key o) ∧ (key p = 4607182418800017408 → key o = 0 → key (meanF o n p) = key n) ∧
    ∃ t sl a b, floatBits .add .f64 (absF o) (absF n) = some t ∧ floatBits .mul .f64 4472406533629990549 t = some sl ∧ floatBits .sub .f64 lo sl = some a ∧ floatBits .add .f64 hi sl = some b ∧
      real a ∧ real b ∧ key a ≤ key (meanF o n p) ∧ key (meanF o n p) ≤ key b := by
  have hk := k0_eq
  obtain ⟨far, step, m, _, e1, e2, e3, e4, e5, e6, e7⟩ := mean_steps h
  obtain ⟨t, sl, s1, s2, s3, s4, s5⟩ := slack_is h.fo h.fn
  have ro : real o := by have := h.fo; unfold real; omega
  have rn : real n := by have := h.fn; unfold real; omega
  have no : (key o).natAbs ≤ k0 := by rw [natAbs_key]; exact h.fo
  have nn : (key n).natAbs ≤ k0 := by rw [natAbs_key]; exact h.fn
  have flo : fin lo := fin_of_key (by omega)
  have fhi : fin hi := fin_of_key (by omega)
  obtain ⟨a, a1, a2, a3⟩ := sub_fin flo s3
  obtain ⟨b, b1, b2, b3⟩ := add_fin fhi s3
  have vo := RI_val ro
  have vn := RI_val rn
  have vf := val_RI e3
  rw [e1]
  refine ⟨e2, fun hp => ?_, fun hp ho => ?_, t, sl, a, b, s1, s2, a1, b1, a3, b3, ?_, ?_⟩
  · rw [e5, e6 hp, Int.add_zero, vo]
  · have v0 : val o = 0 := by
      have : rung o = 0 := by rw [← natAbs_key, ho]; rfl
      unfold val; rw [this, M_zero, sv_zero]
    have : key far = key n := by rw [e3, v0, Int.sub_zero, vn]
    rw [e5, v0, e7 hp, Int.zero_add, val_key this, vn]
  · rw [a2, e5]
    apply RI_mono
    rcases Int.le_total (key o) (key n) with hc | hc
    · have hl : val lo = val o := val_key (by omega)
      have hv := val_mono hc
      have hneg : ¬ (val n - val o < 0) := by omega
      rw [decide_eq_false hneg] at vf
      have : 0 ≤ val far := by rw [vf]; unfold sv; simp
      omega
    · have hl : val lo = val n := val_key (by omega)
      have hv := val_mono hc
      by_cases hneg : val n - val o < 0
      · rw [decide_eq_true hneg] at vf
        have := s5 (val n - val o).natAbs (by omega)
        have hf : val far = -(M (R 0 (val n - val o).natAbs) : Int) := by rw [vf]; rfl
        omega
      · have h0 : val n - val o = 0 := by omega
        rw [h0] at vf
        have hf : val far = 0 := by rw [vf]; rfl
        omega
  · rw [b2, e5]
    apply RI_mono
    rcases Int.le_total (key o) (key n) with hc | hc
    · have hl : val hi = val n := val_key (by omega)
      have hv := val_mono hc
      have hneg : ¬ (val n - val o < 0) := by omega
      rw [decide_eq_false hneg] at vf
      have := s5 (val n - val o).natAbs (by omega)
      have hf : val far = (M (R 0 (val n - val o).natAbs) : Int) := by rw [vf]; rfl
      omega
    · have hl : val hi = val o := val_key (by omega)
      have hv := val_mono hc
      by_cases hneg : val n - val o < 0
      · rw [decide_eq_true hneg] at vf
        have hf : val far = -(M (R 0 (val n - val o).natAbs) : Int) := by rw [vf]; rfl
        omega
      · have h0 : val n - val o = 0 := by omega
        rw [h0] at vf
        have hf : val far = 0 := by rw [vf]; rfl
        omega
end Go.Proofs.Ytmopjmnpbmkjpaa
