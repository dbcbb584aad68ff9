/- The runs of float operations as total functions of the operands and the world: what each gives (a result that is not fixed is the tape's) and how many draws it makes. -/
import Derived.Test.YtmopjmnpbmkjpaaRows
import Derived.WalkKit
import Derived.WalkSpells
import Derived.WalkLawsBesides
import Derived.Deep.Draws
namespace Go.Proofs.Ytmopjmnpbmkjpaa
open Go.RowKit

/-- A NaN's word off the tape. -/
def nanW (q : Question) (w : World) : Nat := q.cut (w.tape w.drawn q)

def flR (op : BinOp) (x y : Nat) (w : World) : Nat := (floatBits op .f64 x y).getD (nanW (.nanBits .f64 x y) w)
def flN (op : BinOp) (x y : Nat) : Nat := if (floatBits op .f64 x y).isSome then 0 else 1

def maxR (x y : Nat) (w : World) : Nat :=
  match FloatKind.f64.format.order x y with
  | none => nanW (.nanMinMax .f64 true x y) w
  | some .lt => y
  | some .gt => x
  | some .eq => if (FloatKind.f64.decode x).neg then y else x
def minR (x y : Nat) (w : World) : Nat :=
  match FloatKind.f64.format.order x y with
  | none => nanW (.nanMinMax .f64 false x y) w
  | some .lt => x
  | some .gt => y
  | some .eq => if (FloatKind.f64.decode x).neg then x else y
def mmN (x y : Nat) : Nat := match FloatKind.f64.format.order x y with | none => 1 | _ => 0

def toIntR (x : Nat) (w : World) : Int := (floatToIntVal .f64 x .i64).getD (IntKind.i64.wrap (nanW (.floatToInt .f64 x .i64) w))
def toIntN (x : Nat) : Nat := if (floatToIntVal .f64 x .i64).isSome then 0 else 1

section
variable {P : Program} (w : World) (x y : Nat)

theorem run_fl_add (t : TypeId) : (binOp .add t (.float .f64 x) (.float .f64 y)).run P w = .ok (.float .f64 (flR .add x y w)) (w.drewN (flN .add x y)) := by
  rcases h : floatBits .add .f64 x y with _ | r
  · have h' : FloatKind.f64.format.add x y = none := h
    simp [binOp, Op.floatArith, h', flR, flN, h, nanW, Question.forced, World.drew_is_drewN]
  · rw [run_float_arith w _ t _ _ _ _ h]; simp [flR, flN, h, World.drewN_zero]
theorem run_fl_sub (t : TypeId) : (binOp .sub t (.float .f64 x) (.float .f64 y)).run P w = .ok (.float .f64 (flR .sub x y w)) (w.drewN (flN .sub x y)) := by
  rcases h : floatBits .sub .f64 x y with _ | r
  · have h' : FloatKind.f64.format.sub x y = none := h
    simp [binOp, Op.floatArith, h', flR, flN, h, nanW, Question.forced, World.drew_is_drewN]
  · rw [run_float_arith w _ t _ _ _ _ h]; simp [flR, flN, h, World.drewN_zero]
theorem run_fl_mul (t : TypeId) : (binOp .mul t (.float .f64 x) (.float .f64 y)).run P w = .ok (.float .f64 (flR .mul x y w)) (w.drewN (flN .mul x y)) := by
  rcases h : floatBits .mul .f64 x y with _ | r
  · have h' : FloatKind.f64.format.mul x y = none := h
    simp [binOp, Op.floatArith, h', flR, flN, h, nanW, Question.forced, World.drew_is_drewN]
  · rw [run_float_arith w _ t _ _ _ _ h]; simp [flR, flN, h, World.drewN_zero]

theorem run_max2 (ts : Array TypeId) (t : TypeId) : (Builtin.max_ ts t #[.float .f64 x, .float .f64 y]).run P w = .ok (.float .f64 (maxR x y w)) (w.drewN (mmN x y)) := by
  simp only [Builtin.max_, List.foldlM, Builtin.max2, maxR, mmN]
  split <;> simp [*, nanW, Question.forced, World.drew_is_drewN, World.drewN_zero]
theorem run_min2 (ts : Array TypeId) (t : TypeId) : (Builtin.min_ ts t #[.float .f64 x, .float .f64 y]).run P w = .ok (.float .f64 (minR x y w)) (w.drewN (mmN x y)) := by
  simp only [Builtin.min_, List.foldlM, Builtin.min2, minR, mmN]
  split <;> simp [*, nanW, Question.forced, World.drew_is_drewN, World.drewN_zero]

theorem run_toInt (src dst : TypeId) (hs : (P.underlying src).isSome = true) (hd : P.underlying dst = some (.int .i64)) :
    (convert src dst (.float .f64 x)).run P w = .ok (.int .i64 (toIntR x w)) (w.drewN (toIntN x)) := by
  rcases h : floatToIntVal .f64 x .i64 with _ | r
  · obtain ⟨u, hs'⟩ := Option.isSome_iff_exists.1 hs
    have e2 : Conv.floatToInt .f64 x .i64 = (do pure (.int .i64 (IntKind.i64.wrap (← choose (.floatToInt .f64 x .i64))))) := by
      unfold floatToIntVal at h
      unfold Conv.floatToInt
      split at h
      · rename_i n e
        split at h
        · cases h
        · rename_i hb
          simp only [e]
          rw [if_neg hb]
      · rename_i e
        simp only [e]
    simp only [toIntR, toIntN, h]
    cases u <;> simp [convert, run_underlying hs', run_underlying hd, e2, nanW, Question.forced, World.drew_is_drewN]
  · rw [run_convert_float_int w src dst _ _ _ _ hs hd h]; simp [toIntR, toIntN, h, World.drewN_zero]
end
end Go.Proofs.Ytmopjmnpbmkjpaa
