/- The walks of the laws over package smooth. -/
import Derived.Test.YtmopjmnpbmkjpaaB
namespace Go.Proofs.Ytmopjmnpbmkjpaa
open Go.RowKit Fl
attribute [local go_sem] fold_lt fold_gt fold_eq fold_ne fold_le fold_ge
attribute [local go_sem] nanB_eqB run_fl_add run_fl_sub run_fl_mul run_conv

theorem mean_aw (w : World) : Calls Try.prog 20 #[.float .f64 4621819117588971520, .float .f64 4626322717216342016, .float .f64 4598175219545276416] w fun e w' => e = .returned (.float .f64 4623226492472524800) ∧ ∃ n, w' = w.drewN n := by
  have h := mean_any 4621819117588971520 4626322717216342016 4598175219545276416 w
  rwa [show meanF 4621819117588971520 4626322717216342016 4598175219545276416 = 4623226492472524800 from by decide +kernel] at h
theorem wait_aw (w : World) : Calls Try.prog 16 #[.float .f64 4617315517961601024, .float .f64 4607632778762754458] w fun e w' => e = .returned (.int .i64 10) ∧ ∃ n, w' = w.drewN n := by
  have h := wait_any 4617315517961601024 4607632778762754458 w
  rwa [show waitF 4617315517961601024 4607632778762754458 = 10 from by decide +kernel] at h
theorem before_aw (w : World) : Calls Try.prog 11 #[.float .f64 4607182418800017408, .float .f64 9221120237041090561] w fun e w' => e = .returned (.bool true) ∧ w = w' := by
  have h := before_any 4607182418800017408 9221120237041090561 w
  rwa [show befB 4607182418800017408 9221120237041090561 = true from by decide +kernel] at h
def awX (i : Nat) : Nat := [9221120237041090561, 4613937818241073152, 9223372036854775808, 0].getD i 0
theorem best_aw (a : Addr) (w : World) (h : FRow w (some a) 4 4 awX) : Calls Try.prog 13 #[.slice (some a) 4 4] w fun e w' => e = .returned (.int .i64 2) ∧ w = w' := by
  have h := best_any (some a) 4 4 awX w h
  rwa [show optI (bst awX 4) = 2 from by decide +kernel] at h
theorem four_cells (w : World) (t : TypeId) : FRow (w.alloc (.cells #[.float .f64 9221120237041090561, .float .f64 4613937818241073152, .float .f64 9223372036854775808, .float .f64 0] t)) (some ⟨w.heap.size, 0, none⟩) 4 4 awX := by
  refine ⟨by omega, by omega, fun _ => ⟨_, _, rfl, fun i hi => ?_⟩⟩
  have : i = 0 ∨ i = 1 ∨ i = 2 ∨ i = 3 := by omega
  rw [cell_of_row _ _ _ _ _ _ (heap_alloc_new w _)]
  rcases this with rfl | rfl | rfl | rfl <;> rfl

theorem Yes.drew {w : World} {n : Nat} {e : Ending} {w' : World} (h : Yes (w.drewN n) e w') : Yes w e w' := ⟨h.1, (below_drewN (Below.refl _ w) n).trans h.2⟩

set_option maxHeartbeats 400000 in
theorem awake_any (w : World) : Calls Try.prog 10 #[] w (Yes w) := by
  have e1 : eqB 4623226492472524800 4623226492472524800 = true := by decide +kernel
  go_enter Try.func10, Try.ntmps10
  go_wp2_with (first | (go_at_call 20; refine (mean_aw _).mono ?_; rintro e w' ⟨rfl, n1, rfl⟩) | (go_at_call 24; refine (nan_any _).mono ?_; rintro e w' ⟨rfl, rfl⟩) | (go_at_call 26; refine (zero_any _).mono ?_; rintro e w' ⟨rfl, rfl⟩) | (go_at_call 11; refine (before_aw _).mono ?_; rintro e w' ⟨rfl, rfl⟩) | (go_at_call 13; refine (best_aw _ _ (four_cells _ _)).mono ?_; rintro e w' ⟨rfl, rfl⟩) | (go_at_call 16; refine (wait_aw _).mono ?_; rintro e w' ⟨rfl, n2, rfl⟩))
  go_ret
  exact ⟨rfl, below_drewN ((below_drewN (Below.refl _ _) _).alloc (Nat.le_refl _) _) _⟩

set_option maxHeartbeats 400000 in
theorem waits_walk (m s : Nat) (w : World) : Calls Try.prog 4 #[.float .f64 m, .float .f64 s] w (Yes w) := by
  go_enter Try.func4, Try.ntmps4
  go_wp2_with (first | (go_at_call 16; refine (wait_any _ _ _).mono ?_; rintro e w' ⟨rfl, n1, rfl⟩) | (go_at_call 17; refine (wait_ref _ _ _).mono ?_; rintro e w' ⟨rfl, n1, rfl⟩) | (go_at_call 10; refine (awake_any _).mono ?_; rintro e w' ⟨rfl, hb⟩))
  go_ret
  exact ⟨rfl, (below_drewN (Below.refl _ _) _).trans hb⟩

set_option maxHeartbeats 400000 in
theorem means_walk (o m n p : Nat) (w : World) : Calls Try.prog 6 #[.float .f64 o, .float .f64 m, .float .f64 n, .float .f64 p] w (Yes w) := by
  have hs := sameB_refl (meanF o n p)
  go_enter Try.func6, Try.ntmps6
  go_wp2_with (first | (go_at_call 20; refine (mean_any _ _ _ _).mono ?_; rintro e w' ⟨rfl, n1, rfl⟩) | (go_at_call 21; refine (mean_ref _ _ _ _).mono ?_; rintro e w' ⟨rfl, n1, rfl⟩) | (go_at_call 15; refine (same_any _ _ _).mono ?_; rintro e w' ⟨rfl, rfl⟩) | (go_at_call 22; refine (spread_any _ _ _ _ _).mono ?_; rintro e w' ⟨r1, rfl, h1, n1, rfl⟩) | (go_at_call 23; refine (spread_ref _ _ _ _ _).mono ?_; rintro e w' ⟨r2, rfl, h2, n1, rfl⟩; have h3 := spr_same h1 h2) | (go_at_call 10; refine (awake_any _).mono ?_; rintro e w' ⟨rfl, hb⟩))
  go_ret
  exact ⟨rfl, (below_drewN (Below.refl _ _) _).trans hb⟩
end Go.Proofs.Ytmopjmnpbmkjpaa
