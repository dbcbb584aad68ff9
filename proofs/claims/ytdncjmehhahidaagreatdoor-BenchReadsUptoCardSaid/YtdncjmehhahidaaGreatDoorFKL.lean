/- The program's types, laid out: in parts. -/
import Derived.Test.YtdncjmehhahidaaGreatDoorChecked
import Derived.WalkKit
import GoSem.ClaimDataLaid
namespace Go.Proofs.YtdncjmehhahidaaGreatDoor
open Go
set_option maxRecDepth 100000
def segB (p : Nat → Bool) (a k : Nat) : Bool := (List.range' a k).all p
theorem segB_add {p : Nat → Bool} {a k m b s : Nat} (h : segB p a k = true) (h' : segB p b m = true) (e : a + k = b) (e' : k + m = s) : segB p a s = true := by
  subst e e'
  unfold segB at *
  rw [← List.range'_append_1, List.all_append, h, h']; rfl
theorem segB_all {p : Nat → Bool} {s m : Nat} (h : segB p 0 s = true) (e : m = s) : (List.range m).all p = true := by
  subst e
  rw [List.range_eq_range']; exact h
theorem lo0 : segB (rowFine Tryz.prog) 0 65 = true := by kernel_rfl
theorem lo1 : segB (rowFine Tryz.prog) 65 65 = true := by kernel_rfl
theorem lo2 : segB (rowFine Tryz.prog) 130 65 = true := by kernel_rfl
theorem lo3 : segB (rowFine Tryz.prog) 195 65 = true := by kernel_rfl
theorem lo4 : segB (rowFine Tryz.prog) 260 65 = true := by kernel_rfl
theorem lo5 : segB (rowFine Tryz.prog) 325 65 = true := by kernel_rfl
theorem lo6 : segB (rowFine Tryz.prog) 390 65 = true := by kernel_rfl
theorem lo7 : segB (rowFine Tryz.prog) 455 65 = true := by kernel_rfl
theorem lo8 : segB (rowFine Tryz.prog) 520 65 = true := by kernel_rfl
theorem lo9 : segB (rowFine Tryz.prog) 585 65 = true := by kernel_rfl
theorem lo10 : segB (rowFine Tryz.prog) 650 65 = true := by kernel_rfl
theorem lo11 : segB (rowFine Tryz.prog) 715 65 = true := by kernel_rfl
theorem lo12 : segB (rowFine Tryz.prog) 780 42 = true := by kernel_rfl
theorem ls1 : segB (rowFine Tryz.prog) 0 130 = true := segB_add lo0 lo1 rfl rfl
theorem ls2 : segB (rowFine Tryz.prog) 0 195 = true := segB_add ls1 lo2 rfl rfl
theorem ls3 : segB (rowFine Tryz.prog) 0 260 = true := segB_add ls2 lo3 rfl rfl
theorem ls4 : segB (rowFine Tryz.prog) 0 325 = true := segB_add ls3 lo4 rfl rfl
theorem ls5 : segB (rowFine Tryz.prog) 0 390 = true := segB_add ls4 lo5 rfl rfl
theorem ls6 : segB (rowFine Tryz.prog) 0 455 = true := segB_add ls5 lo6 rfl rfl
theorem ls7 : segB (rowFine Tryz.prog) 0 520 = true := segB_add ls6 lo7 rfl rfl
theorem ls8 : segB (rowFine Tryz.prog) 0 585 = true := segB_add ls7 lo8 rfl rfl
theorem ls9 : segB (rowFine Tryz.prog) 0 650 = true := segB_add ls8 lo9 rfl rfl
theorem ls10 : segB (rowFine Tryz.prog) 0 715 = true := segB_add ls9 lo10 rfl rfl
theorem ls11 : segB (rowFine Tryz.prog) 0 780 = true := segB_add ls10 lo11 rfl rfl
theorem ls12 : segB (rowFine Tryz.prog) 0 822 = true := segB_add ls11 lo12 rfl rfl
theorem types_size : Tryz.prog.types.size = 822 := by kernel_rfl
theorem lo_t : (List.range Tryz.prog.types.size).all (rowFine Tryz.prog) = true := segB_all ls12 types_size
theorem lo_g : Tryz.prog.globals.all (fun g => decide (g.type < Tryz.prog.types.size)) = true := by kernel_rfl
theorem lo_f : Tryz.prog.funcs.all (fun f => f.params.all fun t => decide (t < Tryz.prog.types.size)) = true := by kernel_rfl
theorem laid_of {P : Program} (h1 : (List.range P.types.size).all (rowFine P) = true) (h2 : P.globals.all (fun g => decide (g.type < P.types.size)) = true) (h3 : P.funcs.all (fun f => f.params.all fun t => decide (t < P.types.size)) = true) : laidOutB P = true := by
  unfold laidOutB
  rw [h1, h2, h3]; rfl
theorem laidOut : laidOutB Tryz.prog = true := laid_of lo_t lo_g lo_f
end Go.Proofs.YtdncjmehhahidaaGreatDoor
