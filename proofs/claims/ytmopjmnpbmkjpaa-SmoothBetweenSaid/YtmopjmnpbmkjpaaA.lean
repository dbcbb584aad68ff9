/- The walks of package smooth's functions and of the reference's: what each gives, with how many draws. -/
import Derived.Test.YtmopjmnpbmkjpaaMq
import Derived.Test.YtmopjmnpbmkjpaaKit
import Derived.Outline
import Derived.Lib.Hide
import Derived.BigQuiet
import Derived.Deep.QuietTactic
namespace Go.Proofs.Ytmopjmnpbmkjpaa
open Go.RowKit

attribute [local go_sem] fold_lt fold_gt fold_eq fold_ne fold_le fold_ge
attribute [local go_sem] nanB_eqB

def befB (a b : Nat) : Bool := ltB a b || (nanB b && !nanB a)

set_option maxHeartbeats 400000 in
theorem isNaN_any (x : Nat) (w : World) :
    Calls Try.prog 19 #[.float .f64 x] w fun e w' => e = .returned (.bool (nanB x)) ∧ w = w' := by
  go_enter Try.func19, Try.ntmps19
  go_wp2
  go_ret; exact ⟨rfl, rfl⟩

set_option maxHeartbeats 400000 in
theorem none_any (x : Nat) (w : World) :
    Calls Try.prog 29 #[.float .f64 x] w fun e w' => e = .returned (.bool (nanB x)) ∧ w = w' := by
  go_enter Try.func29, Try.ntmps29
  go_wp2
  go_ret; exact ⟨rfl, rfl⟩

set_option maxHeartbeats 400000 in
theorem before_any (a b : Nat) (w : World) :
    Calls Try.prog 11 #[.float .f64 a, .float .f64 b] w fun e w' => e = .returned (.bool (befB a b)) ∧ w = w' := by
  go_enter Try.func11, Try.ntmps11
  go_wp2_with (first | (go_at_call 29; refine (none_any _ _).mono ?_; rintro e w' ⟨rfl, rfl⟩))
  all_goals (go_ret; exact ⟨by simp_all [befB], rfl⟩)

set_option maxHeartbeats 400000 in
theorem before_ref (a b : Nat) (w : World) :
    Calls Try.prog 12 #[.float .f64 a, .float .f64 b] w fun e w' => e = .returned (.bool (!nanB a && (nanB b || ltB a b))) ∧ w = w' := by
  go_enter Try.func12, Try.ntmps12
  go_wp2_with (first | (go_at_call 19; refine (isNaN_any _ _).mono ?_; rintro e w' ⟨rfl, rfl⟩))
  all_goals (go_ret; exact ⟨by simp_all, rfl⟩)

theorem run_bits (x : Nat) (w : World) : (callFunc 30 #[.float .f64 x]).run Try.prog w = .ok (.value (.int .u64 x)) w := by
  rw [run_callFunc_extern Try.func30 (by kernel_rfl) (by kernel_rfl) (by kernel_rfl) (e := Extern.MathFloatBits.float64bits) (by kernel_rfl)]; rfl
theorem run_frombits (x : Int) (w : World) : (callFunc 32 #[.int .u64 x]).run Try.prog w = .ok (.value (.float .f64 x.toNat)) w := by
  rw [run_callFunc_extern Try.func32 (by kernel_rfl) (by kernel_rfl) (by kernel_rfl) (e := Extern.MathFloatBits.float64frombits) (by kernel_rfl)]; rfl
theorem run_archCeil (x : Nat) (w : World) : ∃ r n, (callFunc 40 #[.float .f64 x]).run Try.prog w = .ok (.value (.float .f64 r)) (w.drewN n) ∧ CeilOk x r := by
  obtain ⟨r, n, h, ho⟩ := run_ceil (P := Try.prog) "math.archCeil" x w
  refine ⟨r, n, ?_, ho⟩
  rw [run_callFunc_extern Try.func40 (by kernel_rfl) (by kernel_rfl) (by kernel_rfl) (e := Extern.MathFloor.toIntegral "math.archCeil" .up) (by kernel_rfl), h]; rfl
theorem run_conv (x : Nat) (w : World) : (convert 22 3 (.float .f64 x)).run Try.prog w = .ok (.int .i64 (toIntR x w)) (w.drewN (toIntN x)) :=
  run_toInt w x 22 3 (by rw [Try.underlying22]; rfl) Try.underlying3

attribute [local go_sem] run_fl_add run_fl_sub run_fl_mul run_max2 run_min2 run_bits run_frombits run_conv

set_option maxHeartbeats 400000 in
theorem ceil_any (x : Nat) (w : World) :
    Calls Try.prog 31 #[.float .f64 x] w fun e w' => ∃ r, e = .returned (.float .f64 r) ∧ CeilOk x r ∧ ∃ n, w' = w.drewN n := by
  obtain ⟨r, n, h, ho⟩ := run_archCeil x w
  refine Calls.mono (R := fun e w' => e = .returned (.float .f64 r) ∧ w' = w.drewN n) ?_ (fun _ _ ⟨h1, h2⟩ => ⟨r, h1, ho, n, h2⟩)
  clear ho
  go_enter Try.func31, Try.ntmps31
  go_wp2
  go_ret; exact ⟨rfl, rfl⟩

/-- It returns v; all that it did to the world is to draw. -/
def Ret (v : Value) (w : World) (e : Ending) (w' : World) : Prop := e = .returned v ∧ ∃ n, w' = w.drewN n

set_option maxHeartbeats 400000 in
theorem wait_any (m s : Nat) (w : World) : Calls Try.prog 16 #[.float .f64 m, .float .f64 s] w (Ret (.int .i64 (waitF m s)) w) := by
  go_enter Try.func16, Try.ntmps16
  go_wp2_with (first | (go_at_call 31; refine (ceil_any _ _).mono ?_; rintro e w' ⟨r, rfl, hx, n, rfl⟩; have HX := Lib.hid (show WaitX m s r from ⟨_, _, hx⟩); clear hx) | (go_at_call 29; refine (none_any _ _).mono ?_; rintro e w' ⟨rfl, rfl⟩))
  all_goals go_ret
  · exact ⟨congrArg (fun i => Ending.returned (Value.int .i64 i)) (wait_yes HX.out ‹_›), _, rfl⟩
  · exact ⟨congrArg (fun i => Ending.returned (Value.int .i64 i)) (wait_no HX.out ‹_›), _, rfl⟩

set_option maxHeartbeats 400000 in
theorem wait_ref (m s : Nat) (w : World) : Calls Try.prog 17 #[.float .f64 m, .float .f64 s] w (Ret (.int .i64 (waitF m s)) w) := by
  go_enter Try.func17, Try.ntmps17
  go_wp2_with (first | (go_at_call 31; refine (ceil_any _ _).mono ?_; rintro e w' ⟨r, rfl, hx, n, rfl⟩; have HX := Lib.hid (show WaitX m s r from ⟨_, _, hx⟩); clear hx) | (go_at_call 19; refine (isNaN_any _ _).mono ?_; rintro e w' ⟨rfl, rfl⟩))
  all_goals go_ret
  · exact ⟨congrArg (fun i => Ending.returned (Value.int .i64 i)) (wait_yes HX.out ‹_›), _, rfl⟩
  · exact ⟨congrArg (fun i => Ending.returned (Value.int .i64 i)) (wait_60 HX.out (Bool.eq_false_iff.2 ‹_›) ‹_›), _, rfl⟩
  · exact ⟨congrArg (fun i => Ending.returned (Value.int .i64 i)) (wait_2 HX.out (Bool.eq_false_iff.2 ‹_›) ‹_› ‹_›), _, rfl⟩
  · exact ⟨congrArg (fun i => Ending.returned (Value.int .i64 i)) (wait_int HX.out (Bool.eq_false_iff.2 ‹_›) ‹_› ‹_›), _, rfl⟩

set_option maxHeartbeats 400000 in
theorem abs_any (x : Nat) (w : World) (hx : W64 x) :
    Calls Try.prog 18 #[.float .f64 x] w fun e w' => e = .returned (.float .f64 (absF x)) ∧ w = w' := by
  go_enter Try.func18, Try.ntmps18
  go_wp2
  go_ret
  exact ⟨congrArg (fun i => Ending.returned (Value.float .f64 i)) (abs_bits hx), rfl⟩
set_option maxHeartbeats 400000 in
theorem inf_any (w : World) :
    Calls Try.prog 25 #[] w fun e w' => e = .returned (.float .f64 9218868437227405312) ∧ w = w' := by
  go_enter Try.func25, Try.ntmps25
  go_wp2
  go_ret
  exact ⟨rfl, rfl⟩
set_option maxHeartbeats 400000 in
theorem nan_any (w : World) :
    Calls Try.prog 24 #[] w fun e w' => e = .returned (.float .f64 9221120237041090561) ∧ w = w' := by
  go_enter Try.func24, Try.ntmps24
  go_wp2
  go_ret
  exact ⟨rfl, rfl⟩
set_option maxHeartbeats 400000 in
theorem zero_any (w : World) :
    Calls Try.prog 26 #[] w fun e w' => e = .returned (.float .f64 9223372036854775808) ∧ w = w' := by
  go_enter Try.func26, Try.ntmps26
  go_wp2
  go_ret
  exact ⟨rfl, rfl⟩
theorem fl_eq {a b : Nat} (h : a = b) : Ending.returned (Value.float .f64 a) = Ending.returned (Value.float .f64 b) := by rw [h]
set_option maxHeartbeats 400000 in
theorem mean_any (o n p : Nat) (w : World) : Calls Try.prog 20 #[.float .f64 o, .float .f64 n, .float .f64 p] w (Ret (.float .f64 (meanF o n p)) w) := by
  go_enter Try.func20, Try.ntmps20
  go_wp2_with (first | (go_at_call 29; refine (none_any _ _).mono ?_; rintro e w' ⟨rfl, rfl⟩))
  all_goals go_ret
  · exact ⟨fl_eq (mean_1 (by first | assumption | exact Bool.eq_false_iff.2 ‹_›)), 0, rfl⟩
  · exact ⟨fl_eq (mean_2 (by first | assumption | exact Bool.eq_false_iff.2 ‹_›) (by first | assumption | exact Bool.eq_false_iff.2 ‹_›)), 0, rfl⟩
  · exact ⟨fl_eq (mean_3 (w := w) (by first | assumption | exact Bool.eq_false_iff.2 ‹_›) (by first | assumption | exact Bool.eq_false_iff.2 ‹_›) (by first | assumption | exact Bool.eq_false_iff.2 ‹_›)), _, rfl⟩
  · exact ⟨fl_eq (mean_4 (w := w) (by first | assumption | exact Bool.eq_false_iff.2 ‹_›) (by first | assumption | exact Bool.eq_false_iff.2 ‹_›) (by first | assumption | exact Bool.eq_false_iff.2 ‹_›)), _, rfl⟩
set_option maxHeartbeats 400000 in
theorem mean_ref (o n p : Nat) (w : World) : Calls Try.prog 21 #[.float .f64 o, .float .f64 n, .float .f64 p] w (Ret (.float .f64 (meanF o n p)) w) := by
  go_enter Try.func21, Try.ntmps21
  go_wp2_with (first | (go_at_call 19; refine (isNaN_any _ _).mono ?_; rintro e w' ⟨rfl, rfl⟩))
  all_goals go_ret
  · exact ⟨fl_eq (mean_1 (by first | assumption | exact Bool.eq_false_iff.2 ‹_›)), 0, rfl⟩
  · exact ⟨fl_eq (mean_2 (by first | assumption | exact Bool.eq_false_iff.2 ‹_›) (by first | assumption | exact Bool.eq_false_iff.2 ‹_›)), 0, rfl⟩
  · exact ⟨fl_eq (mean_3 (w := w) (by first | assumption | exact Bool.eq_false_iff.2 ‹_›) (by first | assumption | exact Bool.eq_false_iff.2 ‹_›) (by first | assumption | exact Bool.eq_false_iff.2 ‹_›)), _, rfl⟩
  · exact ⟨fl_eq (mean_4 (w := w) (by first | assumption | exact Bool.eq_false_iff.2 ‹_›) (by first | assumption | exact Bool.eq_false_iff.2 ‹_›) (by first | assumption | exact Bool.eq_false_iff.2 ‹_›)), _, rfl⟩

theorem spr_of (o m n p : Nat) (w : World) : SprOk o m n p (meanF o (absF (flR .sub n m w)) p) :=
  ⟨_, rfl, flR_lt .., fun _ h => flR_some w h, fun h => flR_none w h⟩
def RetSpr (o m n p : Nat) (w : World) (e : Ending) (w' : World) : Prop := ∃ r, e = .returned (.float .f64 r) ∧ SprOk o m n p r ∧ ∃ n, w' = w.drewN n
set_option maxHeartbeats 400000 in
theorem spread_any (o m n p : Nat) (w : World) : Calls Try.prog 22 #[.float .f64 o, .float .f64 m, .float .f64 n, .float .f64 p] w (RetSpr o m n p w) := by
  go_enter Try.func22, Try.ntmps22
  go_wp2_with (first | (go_at_call 18; refine (abs_any _ _ (flR_lt ..)).mono ?_; rintro e w' ⟨rfl, rfl⟩) | (go_at_call 20; refine (mean_any _ _ _ _).mono ?_; rintro e w' ⟨rfl, _, rfl⟩))
  go_ret
  exact ⟨_, rfl, spr_of .., _, rfl⟩
set_option maxHeartbeats 400000 in
theorem spread_ref (o m n p : Nat) (w : World) : Calls Try.prog 23 #[.float .f64 o, .float .f64 m, .float .f64 n, .float .f64 p] w (RetSpr o m n p w) := by
  go_enter Try.func23, Try.ntmps23
  go_wp2_with (first | (go_at_call 18; refine (abs_any _ _ (flR_lt ..)).mono ?_; rintro e w' ⟨rfl, rfl⟩) | (go_at_call 21; refine (mean_ref _ _ _ _).mono ?_; rintro e w' ⟨rfl, _, rfl⟩))
  go_ret
  exact ⟨_, rfl, spr_of .., _, rfl⟩
set_option maxHeartbeats 400000 in
theorem same_any (a b : Nat) (w : World) : Calls Try.prog 15 #[.float .f64 a, .float .f64 b] w fun e w' => e = .returned (.bool (sameB a b)) ∧ w = w' := by
  go_enter Try.func15, Try.ntmps15
  go_wp2_with (first | (go_at_call 19; refine (isNaN_any _ _).mono ?_; rintro e w' ⟨rfl, rfl⟩))
  all_goals go_ret
  all_goals exact ⟨by simp_all [sameB], rfl⟩

theorem befR_eq (a b : Nat) : (!nanB a && (nanB b || ltB a b)) = befB a b := by
  unfold befB
  have h := ltB_iff a b
  have h1 := nanB_iff a
  cases ha : nanB a with
  | false => cases nanB b <;> cases ltB a b <;> rfl
  | true =>
    have : ltB a b = false := by
      cases hl : ltB a b with
      | false => rfl
      | true => exact absurd (h.1 hl).1 (h1.1 ha)
    rw [this]; simp
theorem bef_ref (a b : Nat) (w : World) : Calls Try.prog 12 #[.float .f64 a, .float .f64 b] w fun e w' => e = .returned (.bool (befB a b)) ∧ w' = w :=
  (before_ref a b w).mono fun _ _ ⟨h1, h2⟩ => ⟨by rw [h1, befR_eq], h2.symm⟩
end Go.Proofs.Ytmopjmnpbmkjpaa
