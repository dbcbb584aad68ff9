/- Plain facts on what Wait computes. -/
import Derived.Test.YtmopjmnpbmkjpaaFl
import Derived.Test.YtmopjmnpbmkjpaaKey
namespace Go.Proofs.Ytmopjmnpbmkjpaa
open Go.RowKit Fl

def ltB (x y : Nat) : Bool := FloatKind.f64.format.order x y == some .lt
def gtB (x y : Nat) : Bool := FloatKind.f64.format.order x y == some .gt
def eqB (x y : Nat) : Bool := FloatKind.f64.format.order x y == some .eq
def leB (x y : Nat) : Bool := FloatKind.f64.format.order x y == some .lt || FloatKind.f64.format.order x y == some .eq
def geB (x y : Nat) : Bool := FloatKind.f64.format.order x y == some .gt || FloatKind.f64.format.order x y == some .eq
def nanB (x : Nat) : Bool := FloatKind.f64.format.order x x != some .eq
theorem ltB_iff (x y : Nat) : ltB x y = true ↔ real x ∧ real y ∧ key x < key y := lt_iff x y
theorem gtB_iff (x y : Nat) : gtB x y = true ↔ real x ∧ real y ∧ key y < key x := gt_iff x y
theorem eqB_iff (x y : Nat) : eqB x y = true ↔ real x ∧ real y ∧ key x = key y := eq_iff x y
theorem fold_lt (a b : Nat) : (FloatKind.f64.format.order a b == some .lt) = ltB a b := rfl
theorem fold_gt (a b : Nat) : (FloatKind.f64.format.order a b == some .gt) = gtB a b := rfl
theorem fold_eq (a b : Nat) : (FloatKind.f64.format.order a b == some .eq) = eqB a b := rfl
theorem fold_ne (a b : Nat) : (FloatKind.f64.format.order a b != some .eq) = !eqB a b := rfl
theorem fold_le (a b : Nat) : (ltB a b || eqB a b) = leB a b := rfl
theorem fold_ge (a b : Nat) : (gtB a b || eqB a b) = geB a b := rfl
theorem nanB_eqB (x : Nat) : (!eqB x x) = nanB x := rfl
theorem nanB_iff (x : Nat) : nanB x = true ↔ ¬ real x := nan_iff x
theorem nanB_false (x : Nat) : nanB x = false ↔ real x := by
  have := nanB_iff x
  cases h : nanB x <;> simp_all

theorem nanW_nan (k x y w) : ¬ real (nanW (.nanBits k x y) w) ∨ k = .f32 := by
  cases k
  · exact .inr rfl
  · left
    unfold nanW real rung Question.cut
    generalize w.tape w.drawn _ = t
    simp only
    have h1 : t % 2 < 2 := Nat.mod_lt _ (by omega)
    have h2 : t / 2 % (2 ^ 52 - 1) < 2 ^ 52 - 1 := Nat.mod_lt _ (by omega)
    generalize t % 2 = a at *
    generalize t / 2 % (2 ^ 52 - 1) = b at *
    have : a = 0 ∨ a = 1 := by omega
    rcases this with rfl | rfl <;> omega

/-- The words that + - * give are no NaNs. -/
theorem write_real (d : Ieee.Datum) (h : d.isNaN = false) : real (Ieee.double.write d) := by
  have hw : ∀ (s : Bool) (r : Nat), r ≤ 9218868437227405312 → real (Ieee.double.word s r) := by
    intro s r hr
    unfold Ieee.Format.word real rung
    rw [sw]
    split <;> omega
  cases d with
  | number s m p =>
    show real (Ieee.double.nearest s m p)
    unfold Ieee.Format.nearest
    dsimp only
    split
    · exact hw _ _ (by omega)
    · exact hw _ _ (by rw [← ir]; exact Nat.min_le_right ..)
  | infinity s => exact hw s _ (by rw [ir]; omega)
  | nan => cases h

theorem sum_real (a b d : Ieee.Datum) (h : a.sum b = some d) : d.isNaN = false := by
  unfold Ieee.Datum.sum at h
  split at h <;> first | (cases h; done) | (split at h <;> cases h; rfl) | (cases h; rfl)
theorem product_real (a b d : Ieee.Datum) (h : a.product b = some d) : d.isNaN = false := by
  unfold Ieee.Datum.product at h
  split at h <;> first | (cases h; done) | (split at h <;> cases h; rfl) | (cases h; rfl)

theorem floatBits_real {op : BinOp} {x y r : Nat} (ho : op = .add ∨ op = .sub ∨ op = .mul) (h : floatBits op .f64 x y = some r) : real r := by
  rcases ho with rfl | rfl | rfl
  all_goals
    simp only [floatBits, Ieee.Format.add, Ieee.Format.sub, Ieee.Format.mul] at h
    obtain ⟨d, h1, rfl⟩ := Option.map_eq_some_iff.1 h
  · exact write_real d (sum_real _ _ _ h1)
  · exact write_real d (sum_real _ _ _ h1)
  · exact write_real d (product_real _ _ _ h1)

theorem floatBits_nan {op : BinOp} {x y : Nat} (h : ¬ real x ∨ ¬ real y) : floatBits op .f64 x y = none := by
  have e : ∀ z, FloatKind.f64.format.read z = Ieee.double.read z := fun _ => rfl
  cases op <;> simp only [floatBits, Ieee.Format.add, Ieee.Format.sub, Ieee.Format.mul, Ieee.Format.div, e]
  all_goals
    rcases h with h | h
    · rw [read_nan h]; rfl
    · rw [read_nan h]; cases Ieee.double.read x <;> rfl

/-- + - * of any words: the word that is fixed, or a NaN. -/
theorem flR_some {op : BinOp} {x y r : Nat} (w : World) (h : floatBits op .f64 x y = some r) : flR op x y w = r := by simp [flR, h]
theorem flR_none {op : BinOp} {x y : Nat} (w : World) (h : floatBits op .f64 x y = none) : ¬ real (flR op x y w) := by
  simp only [flR, h, Option.getD_none]
  rcases nanW_nan .f64 x y w with h | h
  · exact h
  · cases h

def ceilD (x : Nat) : Nat := FloatKind.f64.encode ((FloatKind.f64.decode x).integral .up)
theorem integral_real (x : Nat) (h : real x) : ((FloatKind.f64.decode x).integral .up).isNaN = false := by
  show ((Ieee.double.read x).integral .up).isNaN = false
  unfold real at h
  rcases Nat.lt_or_eq_of_le h with h1 | h1
  · obtain ⟨m, a, e, _⟩ := read_fin h1
    rw [e]; rfl
  · rw [read_inf h1]; rfl
theorem ceilD_real (x : Nat) (h : real x) : real (ceilD x) := write_real _ (integral_real x h)
/-- What a ceiling may be. -/
def CeilOk (x r : Nat) : Prop := (real x → r = ceilD x) ∧ (¬ real x → ¬ real r)
theorem quiet_nan (s : Bool) (t : Nat) (ht : t < 4503599627370496) : ¬ real (FloatKind.f64.encode (.nan s (FloatKind.f64.format.quiet t))) := by
  show ¬ real (Ieee.double.word s (Ieee.double.infRung + (t ||| 2 ^ (52 - 1)) % Ieee.double.binade))
  have h1 : (t ||| 2 ^ (52 - 1)) < 2 ^ 52 := Nat.or_lt_two_pow (by omega) (by omega)
  have h2 : 2 ^ (52 - 1) ≤ (t ||| 2 ^ (52 - 1)) := Nat.right_le_or
  rw [bw, ir, Nat.mod_eq_of_lt (by omega)]
  unfold Ieee.Format.word real rung
  rw [sw]
  generalize (t ||| 2 ^ (52 - 1)) = q at *
  split <;> omega
theorem run_ceil {P : Program} (name : String) (x : Nat) (w : World) : ∃ r n, (Extern.MathFloor.toIntegral name .up #[.float .f64 x]).run P w = .ok (.float .f64 r) (w.drewN n) ∧ CeilOk x r := by
  change ∃ r n, Sem.run P (match FloatKind.f64.decode x with
    | .nan s t =>
      if FloatKind.f64.format.quiet t = t then pure (Value.float .f64 x) else do
      let kept ← choose (.extern _ 2)
      pure (Value.float .f64 (if kept == 1 then x else FloatKind.f64.encode (.nan s (FloatKind.f64.format.quiet t))))
    | d => pure (Value.float .f64 (FloatKind.f64.encode (d.integral .up)))) w = .ok (Value.float .f64 r) (w.drewN n) ∧ CeilOk x r
  by_cases h : real x
  · have e : FloatKind.f64.decode x = Ieee.double.read x := rfl
    have h' := h
    unfold real at h'
    refine ⟨ceilD x, 0, ?_, fun _ => rfl, fun hh => absurd h hh⟩
    unfold ceilD
    rcases Nat.lt_or_eq_of_le h' with h1 | h1
    · obtain ⟨m, a, e', _⟩ := read_fin h1
      rw [e, e']; rfl
    · rw [e, read_inf h1]; rfl
  · have e : FloatKind.f64.decode x = .nan (ng x) (rung x - 9218868437227405312) := read_nan h
    have hb : rung x < 9223372036854775808 := Nat.mod_lt _ (by omega)
    have h' := h
    unfold real at h'
    have hq := quiet_nan (ng x) (rung x - 9218868437227405312) (by omega)
    rw [e]
    generalize rung x - 9218868437227405312 = t at hq
    by_cases ht : FloatKind.f64.format.quiet t = t
    · exact ⟨x, 0, by simp [ht, World.drewN_zero], fun hh => absurd hh h, fun _ => h⟩
    · simp only [if_neg ht]
      refine ⟨_, 1, by simp [Question.forced, World.drew_is_drewN]; rfl, fun hh => absurd hh h, fun _ => ?_⟩
      split
      · exact h
      · exact hq

/-- mean + 4 * spread, if it is no NaN. -/
def waitQ (m s : Nat) : Option Nat := (floatBits .mul .f64 4616189618054758400 s).bind fun p => floatBits .add .f64 m p
/-- The ceiling of a mean and four spreads. -/
def WaitX (m s r : Nat) : Prop := ∃ w w1 : World, CeilOk (flR .add m (flR .mul 4616189618054758400 s w) w1) r

theorem waitX_some {m s q r : Nat} (hx : WaitX m s r) (h : waitQ m s = some q) : r = ceilD q ∧ real q := by
  unfold waitQ at h
  obtain ⟨p, h1, h2⟩ := Option.bind_eq_some_iff.1 h
  have hq := floatBits_real (.inl rfl) h2
  obtain ⟨w, w1, hc⟩ := hx
  rw [flR_some w h1, flR_some _ h2] at hc
  exact ⟨hc.1 hq, hq⟩
theorem waitX_none {m s r : Nat} (hx : WaitX m s r) (h : waitQ m s = none) : ¬ real r := by
  obtain ⟨w, w1, hc⟩ := hx
  apply hc.2
  unfold waitQ at h
  cases h1 : floatBits .mul .f64 4616189618054758400 s with
  | none => exact flR_none _ (floatBits_nan (.inr (flR_none w h1)))
  | some p =>
    rw [h1] at h
    have h2 : floatBits .add .f64 m p = none := h
    rw [flR_some w h1]
    exact flR_none _ h2

/-- What a wait is, given the ceiling. -/
def cutI (c : Nat) : Int := if key 4633641066610819072 ≤ key c then 60 else if key c ≤ key 4611686018427387904 then 2 else (floatToIntVal .f64 c .i64).getD 0
def waitF (m s : Nat) : Int := match waitQ m s with | none => 60 | some q => cutI (ceilD q)

theorem key_rung {x y : Nat} (h : key x = key y) (h0 : 0 < rung y) (hx : x < 18446744073709551616) (hy : y < 18446744073709551616) : x = y := by
  have e1 : ∀ z, z < 18446744073709551616 → z = (if ng z then 9223372036854775808 else 0) + rung z := by
    intro z hz
    unfold ng rung
    have : z / 9223372036854775808 = 0 ∨ z / 9223372036854775808 = 1 := by omega
    rcases this with h | h <;> rw [h] <;> simp <;> omega
  have e2 := e1 x hx
  have e3 := e1 y hy
  have hb : rung x < 9223372036854775808 := Nat.mod_lt _ (by omega)
  have hb' : rung y < 9223372036854775808 := Nat.mod_lt _ (by omega)
  unfold key at h
  cases hs : ng x <;> cases ht : ng y <;> simp only [hs, ht, Bool.false_eq_true, if_false, if_true] at h e2 e3 <;> omega

theorem key2 : key 4611686018427387904 = 4611686018427387904 := by decide
theorem key60 : key 4633641066610819072 = 4633641066610819072 := by decide
theorem real2 : real 4611686018427387904 := by unfold real rung; omega
theorem real60 : real 4633641066610819072 := by unfold real rung; omega

theorem toInt_ok {c : Nat} (h1 : key 4611686018427387904 < key c) (h2 : key c < key 4633641066610819072) : (floatToIntVal .f64 c .i64).isSome = true := by
  rw [key2] at h1
  rw [key60] at h2
  have hn : ng c = false := by
    cases h : ng c with
    | false => rfl
    | true => exfalso; unfold key at h1; rw [h] at h1; simp only [if_true] at h1; omega
  have hk : key c = rung c := by unfold key; rw [hn]; rfl
  rw [hk] at h1 h2
  have e : FloatKind.f64.decode c = .number false (4503599627370496 + rung c % 4503599627370496) (-1074 + (rung c / 4503599627370496 - 1 : Nat)) := by
    show Ieee.double.read c = _
    rw [read_eq, if_neg (by omega), if_pos (by omega), hn]
  have hr : rung c / 4503599627370496 - 1 < 1074 := by omega
  generalize hm : 4503599627370496 + rung c % 4503599627370496 = m at e
  have hm2 : m < 9007199254740992 := by omega
  generalize hi : rung c / 4503599627370496 - 1 = i at e hr
  have e2 : (FloatKind.f64.decode c).toInt .zero = some ((Ieee.Toward.cut .zero false m (1074 - i) : Nat) : Int) := by
    rw [e]
    simp only [Ieee.Datum.toInt, Ieee.Datum.integral]
    have a1 : (-1074 + (i : Int)).toNat = 0 := by omega
    have a2 : (-(-1074 + (i : Int))).toNat = 1074 - i := by omega
    rw [a1, a2, signed_eq]
    simp [sv]
  have e3 : Ieee.Toward.cut .zero false m (1074 - i) ≤ m := by
    simp only [Ieee.Toward.cut, Bool.toNat_false, Nat.add_zero]
    exact Nat.div_le_self _ _
  unfold floatToIntVal
  rw [e2]
  simp only
  rw [if_pos]
  · rfl
  · have : IntKind.i64.min = -9223372036854775808 := rfl
    have : IntKind.i64.max = 9223372036854775807 := rfl
    omega

theorem toIntR_ok {c : Nat} (w : World) (h : (floatToIntVal .f64 c .i64).isSome = true) : toIntR c w = (floatToIntVal .f64 c .i64).getD 0 := by
  unfold toIntR
  obtain ⟨v, hv⟩ := Option.isSome_iff_exists.1 h
  rw [hv]; rfl
theorem toIntR_2 (w : World) : toIntR 4611686018427387904 w = 2 := by
  unfold toIntR
  rw [show floatToIntVal .f64 4611686018427387904 .i64 = some 2 from by decide +kernel]; rfl
theorem toIntR_60 (w : World) : toIntR 4633641066610819072 w = 60 := by
  unfold toIntR
  rw [show floatToIntVal .f64 4633641066610819072 .i64 = some 60 from by decide +kernel]; rfl

theorem order_cases {x y : Nat} (hx : real x) (hy : real y) :
    (key x < key y ∧ FloatKind.f64.format.order x y = some .lt) ∨ (key x = key y ∧ FloatKind.f64.format.order x y = some .eq) ∨ (key y < key x ∧ FloatKind.f64.format.order x y = some .gt) := by
  have e : FloatKind.f64.format.order x y = some (compare (key x) (key y)) := order_key hx hy
  rw [e, cmp_int]
  by_cases h1 : key x < key y
  · left; exact ⟨h1, by rw [if_pos h1]⟩
  · by_cases h2 : key x = key y
    · right; left; exact ⟨h2, by rw [if_neg h1, if_pos h2]⟩
    · right; right; exact ⟨by omega, by rw [if_neg h1, if_neg h2]⟩

theorem ceilD_lt (x : Nat) : ceilD x < 18446744073709551616 := Ieee.Format.write_lt Ieee.double _

/-- min(max(c, 2), 60) of a ceiling that is no NaN, as an integer. -/
theorem clamp {c : Nat} (hc : real c) (hl : c < 18446744073709551616) (w1 w2 w3 : World) : toIntR (minR (maxR c 4611686018427387904 w1) 4633641066610819072 w2) w3 = cutI c := by
  have hr2 := real2
  have hr60 := real60
  have k2 := key2
  have k60 := key60
  have m1 : maxR c 4611686018427387904 w1 = if key c ≤ key 4611686018427387904 then 4611686018427387904 else c := by
    unfold maxR
    rcases order_cases hc hr2 with ⟨a, b⟩ | ⟨a, b⟩ | ⟨a, b⟩ <;> rw [b]
    · simp only; rw [if_pos (by omega)]
    · simp only
      have : c = 4611686018427387904 := key_rung a (by decide) hl (by decide)
      subst this
      simp
    · simp only; rw [if_neg (by omega)]
  rw [m1]
  unfold cutI
  by_cases h2 : key c ≤ key 4611686018427387904
  · rw [if_pos h2, if_neg (by omega), if_pos h2]
    have m2 : minR 4611686018427387904 4633641066610819072 w2 = 4611686018427387904 := by
      unfold minR
      rcases order_cases hr2 hr60 with ⟨a, b⟩ | ⟨a, b⟩ | ⟨a, b⟩
      · rw [b]
      · omega
      · omega
    rw [m2, toIntR_2]
  · rw [if_neg h2]
    by_cases h6 : key 4633641066610819072 ≤ key c
    · rw [if_pos h6]
      have m2 : minR c 4633641066610819072 w2 = 4633641066610819072 := by
        unfold minR
        rcases order_cases hc hr60 with ⟨a, b⟩ | ⟨a, b⟩ | ⟨a, b⟩ <;> rw [b]
        · omega
        · have : c = 4633641066610819072 := key_rung a (by decide) hl (by decide)
          subst this
          simp
      rw [m2, toIntR_60]
    · rw [if_neg h6, if_neg h2]
      have m2 : minR c 4633641066610819072 w2 = c := by
        unfold minR
        rcases order_cases hc hr60 with ⟨a, b⟩ | ⟨a, b⟩ | ⟨a, b⟩ <;> rw [b] <;> first | rfl | omega
      rw [m2]
      exact toIntR_ok _ (toInt_ok (by omega) (by omega))

/-- The ways of Wait come to one number. -/
theorem wait_yes {m s r : Nat} (hx : WaitX m s r) (h : nanB r = true) : (60 : Int) = waitF m s := by
  rw [nanB_iff] at h
  unfold waitF
  cases hq : waitQ m s with
  | none => rfl
  | some q => exact absurd (by rw [(waitX_some hx hq).1]; exact ceilD_real _ (waitX_some hx hq).2) h
theorem wait_no {m s r : Nat} {w1 w2 w3 : World} (hx : WaitX m s r) (h : nanB r = false) : toIntR (minR (maxR r 4611686018427387904 w1) 4633641066610819072 w2) w3 = waitF m s := by
  rw [nanB_false] at h
  unfold waitF
  cases hq : waitQ m s with
  | none => exact absurd h (waitX_none hx hq)
  | some q =>
    obtain ⟨e, hr⟩ := waitX_some hx hq
    rw [e]
    exact clamp (ceilD_real _ hr) (ceilD_lt _) _ _ _

theorem leB_iff (x y : Nat) : leB x y = true ↔ real x ∧ real y ∧ key x ≤ key y := by
  unfold leB
  rw [Bool.or_eq_true, lt_iff, eq_iff]
  constructor
  · rintro (⟨a, b, c⟩ | ⟨a, b, c⟩) <;> exact ⟨a, b, by omega⟩
  · rintro ⟨a, b, c⟩
    by_cases h : key x < key y
    · exact .inl ⟨a, b, h⟩
    · exact .inr ⟨a, b, by omega⟩
theorem geB_iff (x y : Nat) : geB x y = true ↔ real x ∧ real y ∧ key y ≤ key x := by
  unfold geB
  rw [Bool.or_eq_true, gt_iff, eq_iff]
  constructor
  · rintro (⟨a, b, c⟩ | ⟨a, b, c⟩) <;> exact ⟨a, b, by omega⟩
  · rintro ⟨a, b, c⟩
    by_cases h : key y < key x
    · exact .inl ⟨a, b, h⟩
    · exact .inr ⟨a, b, by omega⟩
theorem leB_false {x y : Nat} (hx : real x) (hy : real y) (h : leB x y = false) : key y < key x := by
  have := leB_iff x y
  rcases Int.lt_or_le (key y) (key x) with h1 | h1
  · exact h1
  · rw [this.2 ⟨hx, hy, h1⟩] at h; cases h
theorem geB_false {x y : Nat} (hx : real x) (hy : real y) (h : geB x y = false) : key x < key y := by
  have := geB_iff x y
  rcases Int.lt_or_le (key x) (key y) with h1 | h1
  · exact h1
  · rw [this.2 ⟨hx, hy, h1⟩] at h; cases h

theorem wait_60 {m s r : Nat} (hx : WaitX m s r) (_h1 : nanB r = false) (h : geB r 4633641066610819072 = true) : (60 : Int) = waitF m s := by
  rw [geB_iff] at h
  unfold waitF
  cases hq : waitQ m s with
  | none => rfl
  | some q =>
    simp only
    rw [(waitX_some hx hq).1] at h
    unfold cutI
    rw [if_pos h.2.2]
theorem wait_2 {m s r : Nat} (hx : WaitX m s r) (h1 : nanB r = false) (h2 : geB r 4633641066610819072 = false) (h : leB r 4611686018427387904 = true) : (2 : Int) = waitF m s := by
  rw [nanB_false] at h1
  rw [leB_iff] at h
  have h2' := geB_false h1 real60 h2
  unfold waitF
  cases hq : waitQ m s with
  | none => exact absurd h1 (waitX_none hx hq)
  | some q =>
    simp only
    rw [(waitX_some hx hq).1] at h h2'
    unfold cutI
    rw [if_neg (by omega), if_pos h.2.2]
theorem wait_int {m s r : Nat} {w1 : World} (hx : WaitX m s r) (h1 : nanB r = false) (h2 : geB r 4633641066610819072 = false) (h : leB r 4611686018427387904 = false) : toIntR r w1 = waitF m s := by
  rw [nanB_false] at h1
  have h3 := leB_false h1 real2 h
  have h2' := geB_false h1 real60 h2
  unfold waitF
  cases hq : waitQ m s with
  | none => exact absurd h1 (waitX_none hx hq)
  | some q =>
    simp only
    rw [(waitX_some hx hq).1] at h3 h2' ⊢
    unfold cutI
    rw [if_neg (by omega), if_neg (by omega)]
    exact toIntR_ok _ (toInt_ok (by omega) (by omega))
end Go.Proofs.Ytmopjmnpbmkjpaa
