/- The walk of the law SmoothOrder. -/
import Derived.Test.YtmopjmnpbmkjpaaE
import Derived.Deep.DeepCutAuto
namespace Go.Proofs.Ytmopjmnpbmkjpaa
open Go.RowKit Fl
attribute [local go_sem] fold_lt fold_gt fold_eq fold_ne fold_le fold_ge nanB_eqB

theorem bef_self (a : Nat) : befB a a = false := by
  cases h : befB a a with
  | false => rfl
  | true => have := (bef_iff a a).1 h; have := this.2 this.1; omega
theorem bef_asym {a b : Nat} (h : befB a b = true) : befB b a = false := by
  cases h2 : befB b a with
  | false => rfl
  | true =>
    have h1 := (bef_iff a b).1 h
    have h2 := (bef_iff b a).1 h2
    have := h1.2 h2.1; have := h2.2 h1.1; omega
theorem bef_trans {a b c : Nat} (h : befB a b = true) (h2 : befB b c = true) : befB a c = true := by
  have h1 := (bef_iff a b).1 h
  have h2 := (bef_iff b c).1 h2
  exact (bef_iff a c).2 ⟨h1.1, fun hc => by have := h1.2 h2.1; have := h2.2 hc; omega⟩
theorem bef_beside {a b : Nat} (h : befB a b = false) (h2 : befB b a = false) : eqB a b = true ∨ (eqB a b = false ∧ nanB a = true ∧ nanB b = true) := by
  have h1 := bef_iff a b
  have h3 := bef_iff b a
  rw [h] at h1
  rw [h2] at h3
  by_cases ha : real a
  · by_cases hb : real b
    · left
      rw [eqB_iff]
      refine ⟨ha, hb, ?_⟩
      have : ¬ key a < key b := fun hh => by have := h1.2 ⟨ha, fun _ => hh⟩; cases this
      have : ¬ key b < key a := fun hh => by have := h3.2 ⟨hb, fun _ => hh⟩; cases this
      omega
    · have := h1.2 ⟨ha, fun hh => absurd hh hb⟩; cases this
  · by_cases hb : real b
    · have := h3.2 ⟨hb, fun hh => absurd hh ha⟩; cases this
    · right
      refine ⟨?_, (nanB_iff a).2 ha, (nanB_iff b).2 hb⟩
      cases he : eqB a b with
      | false => rfl
      | true => exact absurd ((eqB_iff a b).1 he).1 ha

theorem best_at {a : Option Addr} {n c j : Nat} {xs : Nat → Nat} {w : World} (h : FRow w a n c xs) (hj : bst xs n = some j) : Calls Try.prog 13 #[.slice a n c] w fun e w' => e = .returned (.int .i64 (j : Int)) ∧ w = w' := by
  have h := best_any a n c xs w h
  rwa [hj] at h
theorem best_no {a : Option Addr} {c : Nat} {xs : Nat → Nat} {w : World} (h : FRow w a 0 c xs) : Calls Try.prog 13 #[.slice a 0 c] w fun e w' => e = .returned (.int .i64 (-1)) ∧ w = w' :=
  best_any a 0 c xs w h
theorem bef_quiet (a b : Nat) (w : World) : Calls Try.prog 11 #[.float .f64 a, .float .f64 b] w fun e w' => e = .returned (.bool (befB a b)) ∧ w' = w :=
  (before_any a b w).mono fun _ _ ⟨h1, h2⟩ => ⟨h1, h2.symm⟩

set_option maxHeartbeats 1000000 in
set_option maxRecDepth 100000 in
theorem order_walk (x y z : Nat) (a : Option Addr) (n c : Nat) (xs : Nat → Nat) (w : World) (h : Sl w a n c 1 (flts xs n)) :
    Calls Try.prog 8 #[.float .f64 x, .float .f64 y, .float .f64 z, .slice a n c] w (Yes w) := by
  have hnc := h.le
  have hcc := h.cap
  have HS := Lib.hid h
  clear h
  go_enter Try.func8, Try.ntmps8
  go_upto_region 2 with (go_at_call 7; refine (known_walk _).mono ?_; rintro e w1 ⟨rfl, hb⟩)
  have HB := Lib.hid hb
  clear hb
  go_cut [41] (fun s wx => s = .bool false ∧ wx = w1)
  case first =>
    have e0 := bef_self x
    rcases h1 : befB x y with _ | _ <;> rcases h2 : befB y z with _ | _
    all_goals
      first
      | have e1 := bef_asym h1
      | skip
    all_goals
      first
      | have e2 := bef_trans h1 h2
      | skip
    all_goals
      go_wp2_with (go_at_call 11; refine (before_any _ _ _).mono ?_; rintro e w' ⟨rfl, rfl⟩)
      go_meet
      exact ⟨rfl, rfl⟩
  case rest =>
    obtain ⟨rfl, rfl⟩ := hcut
    go_upto_region 4 with fail
    go_cut [66] (fun s wx => s = .bool false ∧ wx = wc)
    case first =>
      rcases h1 : befB x y with _ | _
      · rcases h2 : befB y x with _ | _
        · rcases bef_beside h1 h2 with h3 | ⟨h3, h4, h5⟩
          all_goals
            go_wp2_with (first | (go_at_call 11; refine (before_any _ _ _).mono ?_; rintro e w' ⟨rfl, rfl⟩) | (go_at_call 19; refine (isNaN_any _ _).mono ?_; rintro e w' ⟨rfl, rfl⟩))
            go_meet
            exact ⟨rfl, rfl⟩
        · go_wp2_with (first | (go_at_call 11; refine (before_any _ _ _).mono ?_; rintro e w' ⟨rfl, rfl⟩) | (go_at_call 19; refine (isNaN_any _ _).mono ?_; rintro e w' ⟨rfl, rfl⟩))
          go_meet
          exact ⟨rfl, rfl⟩
      · go_wp2_with (first | (go_at_call 11; refine (before_any _ _ _).mono ?_; rintro e w' ⟨rfl, rfl⟩) | (go_at_call 19; refine (isNaN_any _ _).mono ?_; rintro e w' ⟨rfl, rfl⟩))
        go_meet
        exact ⟨rfl, rfl⟩
    case rest =>
      obtain ⟨rfl, rfl⟩ := hcut
      have HR := Lib.hid (frow_sl (HS.out.below HB.out))
      by_cases h0 : n = 0
      · subst h0
        go_wp2_with (go_at_call 13; refine (best_no HR.out).mono ?_; rintro e w' ⟨rfl, rfl⟩)
        go_ret
        exact ⟨rfl, HB.out⟩
      · have hpos : 0 < n := by omega
        by_cases h1 : 100 < n
        · have h0b : ((n : Int) == 0) = false := by simp; omega
          have h0c : decide ((0 : Int) < (n : Int)) = true := by simp; omega
          go_wp2_with fail
          go_ret
          exact ⟨rfl, HB.out⟩
        · obtain ⟨j, hj, hjn, hb1, hb2⟩ := bst_is xs n hpos
          have h0b : ((n : Int) == 0) = false := by simp; omega
          have h0c : decide ((j : Int) < 0) = false := by simp
          have h0d : decide (n ≤ j) = false := by simp; omega
          have HJ := Lib.hid hj
          have HB1 := Lib.hid hb1
          have HB2 := Lib.hid hb2
          clear hj hb1 hb2
          go_wp2_with (go_at_call 13; refine (best_at HR.out HJ.out).mono ?_; rintro e w' ⟨rfl, rfl⟩)
          go_loopw [11] (fun i wr => Two n wc i wr) (fun i _ => n - (intOf i).toNat)
          case atStart => exact ⟨0, 0, Nat.zero_le _, rfl, rfl⟩
          case round =>
            obtain ⟨k, q, hk, rfl, rfl⟩ := hrel
            by_cases hlt : k < n
            · obtain ⟨b, off, rfl, hcell⟩ := HR.out.2.2 (by omega)
              have hck := hcell k hlt
              have hcj := hcell j hjn
              have hp1 : (0 : Int) ≤ (k : Int) ∧ (k : Int) < n := by omega
              have hp2 : (0 : Int) ≤ (j : Int) ∧ (j : Int) < n := by omega
              have f1 := HB1.out k hlt
              clear hcell
              by_cases hkj : k < j
              · have f2 := HB2.out k hkj
                have g1 : decide (k < j) = true := by simp; omega
                go_wp2_with fail
                go_quiet ((go_at_call 11; exact quiet_add_same (bef_quiet _ _ _)))
                go_wp2
                go_roundw
                case rel => exact ⟨k + 1, _, by omega, by go_num, rfl⟩
                case measure => simp [intOf]; omega
              · have g1 : decide (k < j) = false := by simp; omega
                go_wp2_with fail
                refine wp_region_quiet_lit (by kernel_rfl) (by kernel_rfl) ?_
                repeat (any_goals (first | go_big_quiet_step ((go_at_call 11; exact quiet_add_same (bef_quiet _ _ _))) | quiet_step ((go_at_call 11; exact quiet_add_same (bef_quiet _ _ _))) | (refine wpQuiet_step (fun K hK => ?_); go_simp; split <;> (refine hK _ ?_; clear hK K))))
                refine wpQuiet_nil ?_
                intro _ hw'
                obtain ⟨nq, hw''⟩ := hw'
                subst hw''
                go_wp2
                go_roundw
                case rel => exact ⟨k + 1, _, by omega, by go_num, rfl⟩
                case measure => simp [intOf]; omega
            · have e : k = n := by omega
              subst e
              go_wp2
              go_ret
              exact ⟨rfl, below_drewN HB.out _⟩
end Go.Proofs.Ytmopjmnpbmkjpaa
