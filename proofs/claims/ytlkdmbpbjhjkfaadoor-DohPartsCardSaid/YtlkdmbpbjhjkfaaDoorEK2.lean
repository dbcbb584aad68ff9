/- The contracts of package ostiarykit: heads. -/
import Derived.Laws.StructEq
import Derived.Test.YtlkdmbpbjhjkfaaDoorE5
namespace Go.Proofs.YtlkdmbpbjhjkfaaDoor
set_option linter.unusedVariables false
set_option linter.unusedSimpArgs false
set_option maxRecDepth 100000

theorem neqField_run (x y : Fld) (ox oy : Operand) (w : World) : (do eqGuard .neq 51 ox oy (tyField.val x) (tyField.val y); binOp .neq 51 (tyField.val x) (tyField.val y) : Sem Value).run Tryd.prog w = .ok (.bool (!decide (x = y))) w := by
  obtain ⟨a, c⟩ := x
  obtain ⟨d, e⟩ := y
  have hf : (Tryd.prog.fieldsOf 51).toList = [{ name := "Name", type := 9, offset := 0, embedded := false, tag := "", pkgPath := "", byteOffset := 0 }, { name := "Value", type := 9, offset := 1, embedded := false, tag := "", pkgPath := "", byteOffset := 16 }] := by kernel_rfl
  have hs : ∀ (l m : List UInt8) w, (Op.equalIn 9999 9 (str l) (str m)).run Tryd.prog w = .ok (decide (l = m)) w := fun l m w => by
    rw [str, str, run_equalIn_string w 9998 9 _ _ Tryd.underlying9, ba_toList, ba_toList, beq_dec]
  have p0 : ∀ (l m : List UInt8) w, (part 9 #[str l, str m] 0).run Tryd.prog w = .ok (str l) w := fun l m w => by simp [part, Tryd.isAgg9]
  have p1 : ∀ (l m : List UInt8) w, (part 9 #[str l, str m] 1).run Tryd.prog w = .ok (str m) w := fun l m w => by simp [part, Tryd.isAgg9]
  have he : Tryd.prog.eqGuardType Tryd.prog.depth 51 = false := by kernel_rfl
  have hu : Tryd.prog.underlying 51 = some (.struct (Tryd.prog.fieldsOf 51)) := by kernel_rfl
  have hst : Tryd.prog.stoodInHeld 51 = false := by kernel_rfl
  simp only [tyField, Sem.run_bind, run_eqGuard_agg w .neq 51 ox oy _ _ he, Result.andThen_ok, run_neq_struct, run_equalIn_agg w 9999 51 _ _ hu hst, hf, Op.eqFields]
  by_cases h1 : a = d
  · by_cases h2 : c = e
    · simp [p0, p1, hs, h1, h2]
    · simp [p0, p1, hs, h1, h2]
  · simp [p0, p1, hs, h1]
theorem take_eqF {a b : List Fld} {k : Nat} (ha : k < a.length) (hb : k < b.length) (h : a.take k = b.take k) (hk : a.getD k ([], []) = b.getD k ([], [])) : a.take (k + 1) = b.take (k + 1) := by
  rw [List.take_succ_eq_append_getElem ha, List.take_succ_eq_append_getElem hb, h]
  simp [List.getD, ha, hb] at hk
  rw [hk]

theorem headV_eq {a b c d : List UInt8} {n k : Int} {fs gs : List Fld} : ((⟨a, b, n, fs⟩ : HeadV) = ⟨c, d, k, gs⟩) ↔ (((a = c ∧ b = d) ∧ n = k) ∧ fs = gs) := by
  constructor
  · intro h; cases h; exact ⟨⟨⟨rfl, rfl⟩, rfl⟩, rfl⟩
  · rintro ⟨⟨⟨rfl, rfl⟩, rfl⟩, rfl⟩; rfl

end Go.Proofs.YtlkdmbpbjhjkfaaDoor
