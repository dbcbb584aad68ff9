/- The parts of the proof that this law needs, in the order of their texts: the logic of walks, the plain laws, the walks. -/
import Derived.Test.YtdncjmehhahidaaGreatDoorQB10
namespace Go.Proofs.YtdncjmehhahidaaGreatDoor
open Go.RowKit (Below)
set_option linter.unusedVariables false
set_option maxRecDepth 100000
noncomputable section
def mI (n : Nat) : LV := .int .i64 (.ofNat n)
def pN : LV := .nilp
def bT : LV := .bool true
def bF : LV := .bool false
def pr0 (g : FuncId) : Option (List LV → Nat → LH → Rs) := match Nat.beq g 396 with
  | true => some fromE
  | false => match Nat.beq g 449 with
    | true => some bitsE
    | false => none
def noG (g o : Nat) : Option LV := none
def cx0 : Cx := cxOf Tryz.prog 822 pr0 noG
end
theorem all_body : Tryz.prog.funcs.toList.all okBody = true := by kernel_rfl
theorem n_types : decide (Tryz.prog.types.size ≤ 822) = true := by kernel_rfl
theorem n_funcs : decide (Tryz.prog.funcs.size < 4096) = true := by kernel_rfl
theorem mixed : Tryz.prog.follows .mixedOrders = true := by kernel_rfl
section
variable {w0 : World} {base : Nat}
theorem pr0_ok (g : FuncId) (p : List LV → Nat → LH → Rs) (h : pr0 g = some p) : PrOk Tryz.prog w0 base g p := by
  unfold pr0 at h
  split at h
  · rename_i hg
    cases h
    rw [beq_iff.1 hg]
    exact from_pr fun b w => by rw [run_callFunc_extern Tryz.func396 (by kernel_rfl) (by kernel_rfl) (by kernel_rfl) (e := Extern.MathFloatBits.float64frombits) (by kernel_rfl)]; rfl
  · split at h
    · rename_i hg
      cases h
      rw [beq_iff.1 hg]
      exact bits_pr fun b w => by rw [run_callFunc_extern Tryz.func449 (by kernel_rfl) (by kernel_rfl) (by kernel_rfl) (e := Extern.MathFloatBits.float64bits) (by kernel_rfl)]; rfl
    · cases h
theorem cx_all {pr : FuncId → Option (List LV → Nat → LH → Rs)} (hp : ∀ g p, pr g = some p → PrOk Tryz.prog w0 base g p) : CxF Tryz.prog w0 base (cxOf Tryz.prog 822 pr noG) :=
  cx_ok (by decide) (of_decide_eq_true n_types) (of_decide_eq_true n_funcs) all_body mixed hp (fun g o v h => by cases h)
theorem cx0_ok : CxF Tryz.prog w0 base cx0 := cx_all pr0_ok
end
theorem law_ofE {P : Program} {f : FuncId} {args : List Value} {W : World} (h : SCalls P f args W W.heap.size [] (fun v _ => v = .bool true)) : Calls P f args.toArray W fun e W' => e = .returned (.bool true) ∧ Below W.heap.size W W' :=
  (h W (Sep.start W)).mono fun _ _ ⟨v, H', he, hv, S⟩ => ⟨by rw [he, hv], S.below⟩
end Go.Proofs.YtdncjmehhahidaaGreatDoor
