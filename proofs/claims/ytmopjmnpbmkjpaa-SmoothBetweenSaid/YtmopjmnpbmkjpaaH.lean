/- The walk of the law SmoothRises. -/
import Derived.Test.YtmopjmnpbmkjpaaE
import Derived.Test.YtmopjmnpbmkjpaaRb
namespace Go.Proofs.Ytmopjmnpbmkjpaa
open Go.RowKit Fl
attribute [local go_sem] fold_lt fold_gt fold_eq fold_ne fold_le fold_ge nanB_eqB run_fl_add run_fl_sub run_fl_mul

theorem waitQ_of {m s : Nat} {w w1 : World} (h : nanB (flR .add m (flR .mul 4616189618054758400 s w) w1) = false) : waitQ m s ≠ none := by
  rw [nanB_false] at h
  intro e
  unfold waitQ at e
  cases h1 : floatBits .mul .f64 4616189618054758400 s with
  | none => exact flR_none _ (floatBits_nan (.inr (flR_none w h1))) h
  | some p =>
    rw [h1] at e
    have h2 : floatBits .add .f64 m p = none := e
    rw [flR_some w h1] at h
    exact flR_none _ h2 h

theorem up_no {m s r : Nat} {w w1 w2 : World} (h : geB (flR .add m (absF r) w) m = true) (h2 : ¬ nanB (flR .add m (flR .mul 4616189618054758400 s w1) w2) = true) (h3 : waitF (flR .add m (absF r) w) s < waitF m s) : False := by
  have hq := waitQ_of (Bool.eq_false_iff.2 h2)
  rw [geB_iff] at h
  have := wait_up_mean hq h.1 h.2.2
  omega
theorem up_yes {m s r : Nat} {w w1 w2 : World} (h : (!geB (flR .add s (absF r) w) s) = false) (h2 : ¬ nanB (flR .add m (flR .mul 4616189618054758400 s w1) w2) = true) : decide (waitF m s ≤ waitF m (flR .add s (absF r) w)) = true := by
  have hq := waitQ_of (Bool.eq_false_iff.2 h2)
  rw [Bool.not_eq_false', geB_iff] at h
  have := wait_up_spread hq h.1 h.2.2
  simpa using this

theorem w64_of {x : Nat} (h : (Lit.float .f64 x).wf = true) : W64 x := by unfold W64; simpa [Lit.wf] using h
set_option maxHeartbeats 1000000 in
theorem rises_walk (m s r : Nat) (w : World) (hr : W64 r) : Calls Try.prog 5 #[.float .f64 m, .float .f64 s, .float .f64 r] w (Yes w) := by
  have hb1 := (waitF_bd m s).1
  have hb2 := (waitF_bd m s).2
  have HR := Lib.hid hr
  clear hr
  go_enter Try.func5, Try.ntmps5
  go_wp2_with (first | (go_at_call 10; refine (awake_any _).mono ?_; rintro e w1 ⟨rfl, hb⟩; have HB := Lib.hid hb; clear hb) | (go_at_call 16; refine (wait_any _ _ _).mono ?_; rintro e w' ⟨rfl, n1, rfl⟩) | (go_at_call 18; refine (abs_any _ _ HR.out).mono ?_; rintro e w' ⟨rfl, rfl⟩) | (go_at_call 19; refine (isNaN_any _ _).mono ?_; rintro e w' ⟨rfl, rfl⟩))
  all_goals go_ret
  · exact ⟨rfl, below_drewN HB.out _⟩
  · exact ⟨rfl, below_drewN HB.out _⟩
  · exact ⟨congrArg (fun b => Ending.returned (Value.bool b)) (up_yes ‹_› ‹_›), below_drewN HB.out _⟩
  · exact (up_no ‹_› ‹_› ‹_›).elim
  · exact ⟨rfl, below_drewN HB.out _⟩
end Go.Proofs.Ytmopjmnpbmkjpaa
