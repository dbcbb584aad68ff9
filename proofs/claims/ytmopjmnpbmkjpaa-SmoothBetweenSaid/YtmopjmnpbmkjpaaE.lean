/- The walk of the law SmoothKnown: the chapter's examples, each by the contract of its function at these numbers. -/
import Derived.Test.YtmopjmnpbmkjpaaD
namespace Go.Proofs.Ytmopjmnpbmkjpaa
open Go.RowKit Fl
attribute [local go_sem] fold_lt fold_gt fold_eq fold_ne fold_le fold_ge nanB_eqB

theorem mean_is {o n p r : Nat} (h : meanF o n p = r) (w : World) : Calls Try.prog 20 #[.float .f64 o, .float .f64 n, .float .f64 p] w fun e w' => e = .returned (.float .f64 r) ∧ ∃ n, w' = w.drewN n := by
  subst h; exact mean_any o n p w
theorem mean_k1 (w : World) : Calls Try.prog 20 #[.float .f64 9221120237041090561, .float .f64 4619567317775286272, .float .f64 4602678819172646912] w fun e w' => e = .returned (.float .f64 4619567317775286272) ∧ ∃ n, w' = w.drewN n :=
  mean_is (by decide +kernel) w
theorem mean_k2 (w : World) : Calls Try.prog 20 #[.float .f64 4619567317775286272, .float .f64 9221120237041090561, .float .f64 4602678819172646912] w fun e w' => e = .returned (.float .f64 4619567317775286272) ∧ ∃ n, w' = w.drewN n :=
  mean_is (by decide +kernel) w
theorem mean_k3 (w : World) : Calls Try.prog 20 #[.float .f64 9218868437227405312, .float .f64 9218868437227405312, .float .f64 4602678819172646912] w fun e w' => e = .returned (.float .f64 9218868437227405312) ∧ ∃ n, w' = w.drewN n :=
  mean_is (by decide +kernel) w
theorem spread_is {o m n p d r : Nat} (hd : floatBits .sub .f64 n m = some d) (h : meanF o (absF d) p = r) (w : World) : Calls Try.prog 22 #[.float .f64 o, .float .f64 m, .float .f64 n, .float .f64 p] w fun e w' => e = .returned (.float .f64 r) ∧ ∃ n, w' = w.drewN n := by
  subst h
  refine (spread_any o m n p w).mono fun e w' ⟨r, he, ⟨d', hr, _, h1, _⟩, hw⟩ => ⟨?_, hw⟩
  rw [he, hr, h1 d hd]
theorem spread_k1 (w : World) : Calls Try.prog 22 #[.float .f64 4607182418800017408, .float .f64 4621819117588971520, .float .f64 4616189618054758400, .float .f64 4602678819172646912] w fun e w' => e = .returned (.float .f64 4615063718147915776) ∧ ∃ n, w' = w.drewN n :=
  spread_is (d := 13841813454723219456) (by decide +kernel) (by decide +kernel) w
theorem spread_k2 (w : World) : Calls Try.prog 22 #[.float .f64 9221120237041090561, .float .f64 4621819117588971520, .float .f64 4624070917402656768, .float .f64 4602678819172646912] w fun e w' => e = .returned (.float .f64 4616189618054758400) ∧ ∃ n, w' = w.drewN n :=
  spread_is (d := 4616189618054758400) (by decide +kernel) (by decide +kernel) w
theorem bef_is {a b : Nat} {r : Bool} (h : befB a b = r) (w : World) : Calls Try.prog 11 #[.float .f64 a, .float .f64 b] w fun e w' => e = .returned (.bool r) ∧ w = w' := by
  subst h; exact before_any a b w
theorem bef_k1 (w : World) : Calls Try.prog 11 #[.float .f64 9223372036854775808, .float .f64 0] w fun e w' => e = .returned (.bool false) ∧ w = w' :=
  bef_is (by decide +kernel) w
theorem bef_k2 (w : World) : Calls Try.prog 11 #[.float .f64 9221120237041090561, .float .f64 9221120237041090561] w fun e w' => e = .returned (.bool false) ∧ w = w' :=
  bef_is (by decide +kernel) w
theorem bef_k3 (w : World) : Calls Try.prog 11 #[.float .f64 18442240474082181120, .float .f64 0] w fun e w' => e = .returned (.bool true) ∧ w = w' :=
  bef_is (by decide +kernel) w
theorem wait_is {a b : Nat} {r : Int} (h : waitF a b = r) (w : World) : Calls Try.prog 16 #[.float .f64 a, .float .f64 b] w fun e w' => e = .returned (.int .i64 r) ∧ ∃ n, w' = w.drewN n := by
  subst h; exact wait_any a b w
theorem wait_k1 (w : World) : Calls Try.prog 16 #[.float .f64 18442240474082181120, .float .f64 0] w fun e w' => e = .returned (.int .i64 2) ∧ ∃ n, w' = w.drewN n :=
  wait_is (by decide +kernel) w
theorem wait_k2 (w : World) : Calls Try.prog 16 #[.float .f64 9221120237041090561, .float .f64 0] w fun e w' => e = .returned (.int .i64 60) ∧ ∃ n, w' = w.drewN n :=
  wait_is (by decide +kernel) w
theorem wait_k3 (w : World) : Calls Try.prog 16 #[.float .f64 4633711435354996736, .float .f64 0] w fun e w' => e = .returned (.int .i64 60) ∧ ∃ n, w' = w.drewN n :=
  wait_is (by decide +kernel) w
def nn (_ : Nat) : Nat := 9221120237041090561
theorem best_k1 (a : Addr) (w : World) (h : FRow w (some a) 2 2 nn) : Calls Try.prog 13 #[.slice (some a) 2 2] w fun e w' => e = .returned (.int .i64 0) ∧ w = w' := by
  have h := best_any (some a) 2 2 nn w h
  rwa [show optI (bst nn 2) = 0 from by decide +kernel] at h
theorem best_k2 (w : World) : Calls Try.prog 13 #[.slice none 0 0] w fun e w' => e = .returned (.int .i64 (-1)) ∧ w = w' :=
  best_any none 0 0 nn w ⟨by omega, by omega, fun h => absurd h (by omega)⟩
theorem two_cells (w : World) (t : TypeId) : FRow (w.alloc (.cells #[.float .f64 9221120237041090561, .float .f64 9221120237041090561] t)) (some ⟨w.heap.size, 0, none⟩) 2 2 nn := by
  refine ⟨by omega, by omega, fun _ => ⟨_, _, rfl, fun i hi => ?_⟩⟩
  have : i = 0 ∨ i = 1 := by omega
  rw [cell_of_row _ _ _ _ _ _ (heap_alloc_new w _)]
  rcases this with rfl | rfl <;> rfl
theorem neg_inf (w : World) : (Op.unary .neg (.float .f64 9218868437227405312)).run Try.prog w = .ok (.float .f64 18442240474082181120) w := by kernel_rfl

set_option maxHeartbeats 2000000 in
set_option maxRecDepth 100000 in
theorem known_walk (w : World) : Calls Try.prog 7 #[] w (Yes w) := by
  have e1 : eqB 4619567317775286272 4619567317775286272 = true := by decide +kernel
  have e2 : eqB 9218868437227405312 9218868437227405312 = true := by decide +kernel
  have e3 : eqB 4615063718147915776 4615063718147915776 = true := by decide +kernel
  have e4 : eqB 4616189618054758400 4616189618054758400 = true := by decide +kernel
  have ng := neg_inf
  go_enter Try.func7, Try.ntmps7
  go_wp2_with (first | (go_at_call 24; refine (nan_any _).mono ?_; rintro e w' ⟨rfl, rfl⟩) | (go_at_call 25; refine (inf_any _).mono ?_; rintro e w' ⟨rfl, rfl⟩) | (go_at_call 26; refine (zero_any _).mono ?_; rintro e w' ⟨rfl, rfl⟩) | (go_at_call 20; (with_reducible refine (mean_k1 _).mono ?_); rintro e w' ⟨rfl, n1, rfl⟩) | (go_at_call 20; (with_reducible refine (mean_k2 _).mono ?_); rintro e w' ⟨rfl, n1, rfl⟩) | (go_at_call 20; (with_reducible refine (mean_k3 _).mono ?_); rintro e w' ⟨rfl, n1, rfl⟩) | (go_at_call 22; (with_reducible refine (spread_k1 _).mono ?_); rintro e w' ⟨rfl, n1, rfl⟩) | (go_at_call 22; (with_reducible refine (spread_k2 _).mono ?_); rintro e w' ⟨rfl, n1, rfl⟩) | (go_at_call 11; (with_reducible refine (bef_k1 _).mono ?_); rintro e w' ⟨rfl, rfl⟩) | (go_at_call 11; (with_reducible refine (bef_k2 _).mono ?_); rintro e w' ⟨rfl, rfl⟩) | (go_at_call 11; (with_reducible refine (bef_k3 _).mono ?_); rintro e w' ⟨rfl, rfl⟩) | (go_at_call 13; (with_reducible refine (best_k2 _).mono ?_); rintro e w' ⟨rfl, rfl⟩) | (go_at_call 13; refine (best_k1 _ _ (two_cells _ _)).mono ?_; rintro e w' ⟨rfl, rfl⟩) | (go_at_call 10; refine (awake_any _).mono ?_; rintro e w' ⟨rfl, hb⟩) | (go_at_call 16; (with_reducible refine (wait_k1 _).mono ?_); rintro e w' ⟨rfl, n2, rfl⟩) | (go_at_call 16; (with_reducible refine (wait_k2 _).mono ?_); rintro e w' ⟨rfl, n2, rfl⟩) | (go_at_call 16; (with_reducible refine (wait_k3 _).mono ?_); rintro e w' ⟨rfl, n2, rfl⟩))
  go_ret
  exact ⟨rfl, below_drewN (((below_drewN (Below.refl _ _) _).alloc (Nat.le_refl _) _).trans (hb.mono (by simp))) _⟩
end Go.Proofs.Ytmopjmnpbmkjpaa
