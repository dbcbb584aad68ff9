/- The walks of smooth.Best and ostiaryref02.Best. -/
import Derived.Test.YtmopjmnpbmkjpaaA
import Derived.Deep.LoopGhost
import Derived.Lib.Hide
namespace Go.Proofs.Ytmopjmnpbmkjpaa
open Go.RowKit Fl

/-- A slice of floats that came in, or was made: it reads as xs. -/
def FRow (w : World) (a : Option Addr) (n c : Nat) (xs : Nat → Nat) : Prop :=
  n ≤ c ∧ c ≤ 9223372036854775807 ∧ (0 < n → ∃ b off, a = some ⟨b, off, none⟩ ∧ ∀ i, i < n → w.cell? ⟨b, off + i, none⟩ = some (.float .f64 (xs i)))

/-- The best of the first k. -/
def bst (xs : Nat → Nat) : Nat → Option Nat
  | 0 => none
  | k + 1 => match bst xs k with
    | none => some k
    | some j => if befB (xs k) (xs j) then some k else some j
def optI : Option Nat → Int
  | none => -1
  | some j => j
theorem bst_lt (xs : Nat → Nat) : ∀ k j, bst xs k = some j → j < k
  | 0, j, h => by cases h
  | k + 1, j, h => by
    unfold bst at h
    split at h
    · cases h; omega
    · rename_i i hi
      have := bst_lt xs k i hi
      split at h <;> cases h <;> omega

set_option maxHeartbeats 400000 in
theorem best_any (a : Option Addr) (n c : Nat) (xs : Nat → Nat) (w : World) (h : FRow w a n c xs) :
    Calls Try.prog 13 #[.slice a n c] w fun e w' => e = .returned (.int .i64 (optI (bst xs n))) ∧ w = w' := by
  obtain ⟨hnc, hc, hrow⟩ := h
  have hn : n ≤ 9223372036854775807 := by omega
  go_enter Try.func13, Try.ntmps13
  go_wp2
  go_loop [3, 8] (fun b i => ∃ k : Nat, k ≤ n ∧ i = .int .i64 k ∧ b = .int .i64 (optI (bst xs k))) (fun _ i => n - (intOf i).toNat)
  case atStart => exact ⟨0, Nat.zero_le _, rfl, rfl⟩
  case round =>
    obtain ⟨k, hk, rfl, rfl⟩ := hrel
    by_cases hlt : k < n
    · obtain ⟨b, off, rfl, hcell⟩ := hrow (by omega)
      have hck := hcell k hlt
      cases hb : bst xs k with
      | none =>
        have HS : Hid (bst xs (k + 1) = some k) := by show bst xs (k + 1) = some k; unfold bst; rw [hb]
        have hb' : optI none = -1 := rfl
        clear hb hcell
        rw [hb']
        go_wp2
        go_round
        case rel => exact ⟨k + 1, by omega, by go_num, by rw [HS.out]; rfl⟩
        case measure => simp [intOf]; omega
      | some j =>
        have hj := bst_lt xs k j hb
        have hcj := hcell j (by omega)
        have HS : Hid (bst xs (k + 1) = if befB (xs k) (xs j) then some k else some j) := by show bst xs (k + 1) = _; rw [bst, hb]
        have hb' : optI (some j) = (j : Int) := rfl
        clear hb hcell
        rw [hb']
        clear hb'
        have hj0 : decide ((j : Int) < 0) = false := by simp
        cases hbe : befB (xs k) (xs j) with
        | false =>
          rw [hbe] at HS
          go_wp2_with (first | (go_at_call 11; refine (before_any _ _ _).mono ?_; rintro e w' ⟨rfl, rfl⟩))
          go_round
          case rel => exact ⟨k + 1, by omega, by go_num, by rw [HS.out]; rfl⟩
          case measure => simp [intOf]; omega
        | true =>
          rw [hbe] at HS
          go_wp2_with (first | (go_at_call 11; refine (before_any _ _ _).mono ?_; rintro e w' ⟨rfl, rfl⟩))
          go_round
          case rel => exact ⟨k + 1, by omega, by go_num, by rw [HS.out]; rfl⟩
          case measure => simp [intOf]; omega
    · have e : k = n := by omega
      subst e
      go_wp2
      go_ret
      exact ⟨rfl, rfl⟩

/-- Is there one of the first k that is before y? -/
def anyB (xs : Nat → Nat) (y : Nat) : Nat → Bool
  | 0 => false
  | k + 1 => anyB xs y k || befB (xs k) y
theorem anyB_true (xs : Nat → Nat) (y : Nat) : ∀ k, anyB xs y k = true ↔ ∃ j, j < k ∧ befB (xs j) y = true
  | 0 => by simp [anyB]
  | k + 1 => by
    unfold anyB
    rw [Bool.or_eq_true, anyB_true xs y k]
    constructor
    · rintro (⟨j, h1, h2⟩ | h)
      · exact ⟨j, by omega, h2⟩
      · exact ⟨k, by omega, h⟩
    · rintro ⟨j, h1, h2⟩
      by_cases e : j = k
      · subst e; exact .inr h2
      · exact .inl ⟨j, by omega, h2⟩
/-- The first one that no other one is before. -/
def FirstBest (xs : Nat → Nat) (n : Nat) (r : Int) : Prop :=
  (r = -1 ∧ ∀ i, i < n → anyB xs (xs i) n = true) ∨ ∃ i : Nat, r = i ∧ i < n ∧ anyB xs (xs i) n = false ∧ ∀ j, j < i → anyB xs (xs j) n = true
def RetBest (xs : Nat → Nat) (n : Nat) (w : World) (e : Ending) (w' : World) : Prop := ∃ r, e = .returned (.int .i64 r) ∧ FirstBest xs n r ∧ ∃ m, w' = w.drewN m
def Outer (xs : Nat → Nat) (n : Nat) (w : World) (i : Value) (wr : World) : Prop := ∃ k m : Nat, k ≤ n ∧ i = .int .i64 k ∧ (∀ j, j < k → anyB xs (xs j) n = true) ∧ wr = w.drewN m
def Inner (xs : Nat → Nat) (n y : Nat) (w : World) (f i : Value) (wr : World) : Prop := ∃ k m : Nat, k ≤ n ∧ i = .int .i64 k ∧ f = .bool (!anyB xs y k) ∧ wr = w.drewN m

set_option maxHeartbeats 400000 in
theorem best_ref (a : Option Addr) (n c : Nat) (xs : Nat → Nat) (w : World) (h : FRow w a n c xs) :
    Calls Try.prog 14 #[.slice a n c] w (RetBest xs n w) := by
  obtain ⟨hnc, hc, hrow⟩ := h
  have hn : n ≤ 9223372036854775807 := by omega
  go_enter Try.func14, Try.ntmps14
  go_wp2
  go_loopw [3] (fun i wr => Outer xs n w i wr) (fun i _ => n - (intOf i).toNat)
  case atStart => exact ⟨0, 0, Nat.zero_le _, rfl, fun j hj => absurd hj (by omega), rfl⟩
  case round =>
    obtain ⟨k, m, hk, rfl, hall, rfl⟩ := hrel
    by_cases hlt : k < n
    · obtain ⟨b, off, rfl, hcell⟩ := hrow (by omega)
      have hck := hcell k hlt
      have HC := Lib.hid hcell
      have HA := Lib.hid hall
      clear hcell hall hrow
      go_wp2
      go_loopw [4, 5] (fun f i wr => Inner xs n (xs k) w f i wr) (fun _ i _ => n - (intOf i).toNat)
      case atStart => exact ⟨0, m, Nat.zero_le _, rfl, rfl, rfl⟩
      case round =>
        obtain ⟨q, mm, hq, rfl, rfl, rfl⟩ := hrel
        by_cases hlq : q < n
        · have hcq := HC.out q hlq
          have hp1 : (0 : Int) ≤ (q : Int) ∧ (q : Int) < n := by omega
          have hp2 : (0 : Int) ≤ (k : Int) ∧ (k : Int) < n := by omega
          have HS : Hid (anyB xs (xs k) (q + 1) = (anyB xs (xs k) q || befB (xs q) (xs k))) := rfl
          go_wp2_with fail
          go_quiet ((go_at_call 12; exact quiet_add_same (bef_ref _ _ _)))
          go_wp2
          · have hbe : befB (xs q) (xs k) = true := by assumption
            go_roundw
            case rel => exact ⟨q + 1, _, by omega, by go_num, by rw [HS.out, hbe, Bool.or_true]; rfl, rfl⟩
            case measure => simp [intOf]; omega
          · have hbe : befB (xs q) (xs k) = false := by assumption
            go_roundw
            case rel => exact ⟨q + 1, _, by omega, by go_num, by rw [HS.out, hbe, Bool.or_false], rfl⟩
            case measure => simp [intOf]; omega
        · have e : q = n := by omega
          subst e
          cases hf : anyB xs (xs k) q with
          | false =>
            go_wp2
            go_ret
            exact ⟨_, rfl, .inr ⟨k, rfl, hlt, hf, HA.out⟩, _, rfl⟩
          | true =>
            go_wp2
            go_roundw
            case rel => exact ⟨k + 1, _, by omega, by go_num, fun j hj => by
              by_cases e : j = k
              · subst e; exact hf
              · exact HA.out j (by omega), rfl⟩
            case measure => simp [intOf]; omega
    · have e : k = n := by omega
      subst e
      go_wp2
      go_ret
      exact ⟨_, rfl, .inl ⟨rfl, hall⟩, _, rfl⟩

/-! ### The two come to one number -/
theorem bef_iff (a b : Nat) : befB a b = true ↔ real a ∧ (real b → key a < key b) := by
  unfold befB
  rw [Bool.or_eq_true, Bool.and_eq_true, ltB_iff, nanB_iff, Bool.not_eq_true', nanB_false]
  constructor
  · rintro (⟨h1, _, h3⟩ | ⟨h1, h2⟩)
    · exact ⟨h1, fun _ => h3⟩
    · exact ⟨h2, fun h => absurd h h1⟩
  · rintro ⟨h1, h2⟩
    by_cases h : real b
    · exact .inl ⟨h1, h, h2 h⟩
    · exact .inr ⟨h, h1⟩

/-- The best of the first k: no one of them is before it, and it is before all ahead of it. -/
theorem bst_is (xs : Nat → Nat) : ∀ k, 0 < k → ∃ j, bst xs k = some j ∧ j < k ∧ (∀ i, i < k → befB (xs i) (xs j) = false) ∧ ∀ i, i < j → befB (xs j) (xs i) = true
  | 0, h => absurd h (by omega)
  | k + 1, _ => by
    cases hb : bst xs k with
    | none =>
      have : k = 0 := by
        cases k with
        | zero => rfl
        | succ k => obtain ⟨j, h, _⟩ := bst_is xs (k + 1) (by omega); rw [h] at hb; cases hb
      subst this
      refine ⟨0, rfl, by omega, fun i hi => ?_, fun i hi => absurd hi (by omega)⟩
      have : i = 0 := by omega
      subst this
      cases h : befB (xs 0) (xs 0) with
      | false => rfl
      | true => have := (bef_iff _ _).1 h; have := this.2 this.1; omega
    | some j0 =>
      have hk : 0 < k := by have := bst_lt xs k j0 hb; omega
      obtain ⟨j, h1, h2, h3, h4⟩ := bst_is xs k hk
      have e : bst xs (k + 1) = if befB (xs k) (xs j) then some k else some j := by rw [bst, h1]
      cases hbe : befB (xs k) (xs j) with
      | true =>
        rw [hbe] at e
        have hkj := (bef_iff _ _).1 hbe
        refine ⟨k, e, by omega, fun i hi => ?_, fun i hi => ?_⟩
        · cases h : befB (xs i) (xs k) with
          | false => rfl
          | true =>
            exfalso
            have hik := (bef_iff _ _).1 h
            by_cases ei : i = k
            · subst ei; have := hik.2 hik.1; omega
            · have := h3 i (by omega)
              rw [← Bool.not_eq_true, bef_iff] at this
              apply this
              refine ⟨hik.1, fun hj => ?_⟩
              have := hik.2 hkj.1
              have := hkj.2 hj
              omega
        · rw [bef_iff]
          refine ⟨hkj.1, fun hr => ?_⟩
          have hi3 := h3 i hi
          rw [← Bool.not_eq_true, bef_iff] at hi3
          by_cases hj : real (xs j)
          · have := hkj.2 hj
            have : ¬ key (xs i) < key (xs j) := fun hh => hi3 ⟨hr, fun _ => hh⟩
            omega
          · exact absurd ⟨hr, fun h => absurd h hj⟩ hi3
      | false =>
        rw [hbe] at e
        refine ⟨j, e, by omega, fun i hi => ?_, h4⟩
        by_cases ei : i = k
        · subst ei; exact hbe
        · exact h3 i (by omega)

theorem best_one {xs : Nat → Nat} {n : Nat} {r : Int} (h : FirstBest xs n r) : r = optI (bst xs n) := by
  by_cases hn : n = 0
  · subst hn
    rcases h with ⟨rfl, _⟩ | ⟨i, _, hi, _⟩
    · rfl
    · omega
  · obtain ⟨j, h1, h2, h3, h4⟩ := bst_is xs n (by omega)
    have hj : anyB xs (xs j) n = false := by
      cases hh : anyB xs (xs j) n with
      | false => rfl
      | true =>
        obtain ⟨q, hq, hb⟩ := (anyB_true xs (xs j) n).1 hh
        rw [h3 q hq] at hb; cases hb
    rw [h1]
    rcases h with ⟨_, hall⟩ | ⟨i, rfl, hi, hf, hall⟩
    · rw [hall j h2] at hj; cases hj
    · show (i : Int) = j
      have a1 : ¬ j < i := fun hlt => by rw [hall j hlt] at hj; cases hj
      have a2 : ¬ i < j := fun hlt => by
        have : anyB xs (xs i) n = true := (anyB_true xs (xs i) n).2 ⟨j, h2, h4 i hlt⟩
        rw [this] at hf; cases hf
      omega
end Go.Proofs.Ytmopjmnpbmkjpaa
