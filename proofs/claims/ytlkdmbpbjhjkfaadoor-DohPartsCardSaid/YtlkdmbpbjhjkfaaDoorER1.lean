/- The answer beside heads: bytes and words. -/
import Derived.Test.YtlkdmbpbjhjkfaaDoorE5
namespace Go.Proofs.YtlkdmbpbjhjkfaaDoor
set_option linter.unusedVariables false
set_option linter.unusedSimpArgs false
set_option maxRecDepth 100000

theorem blankF_is (c : UInt8) : blankF c = decide ((c.toNat : Int) = 9 ∨ (c.toNat : Int) = 32) := by
  have h9 := u8_eq (c := c) (n := 9) (by omega)
  have h32 := u8_eq (c := c) (n := 32) (by omega)
  rw [blankF, Bool.eq_iff_iff]
  simp only [Bool.or_eq_true, decide_eq_true_eq]
  exact or_congr h9.symm h32.symm
theorem tl_step {l : List UInt8} (h : l ≠ []) (hb : blankF (l.getD 0 0) = true) : tl blankF (subl l 1 l.length) = tl blankF l := by
  cases l with
  | nil => exact absurd rfl h
  | cons a l =>
    have hb : blankF a = true := hb
    simp [tl, subl, hb]
theorem tl_end {l : List UInt8} (h : ¬ (l ≠ [] ∧ blankF (l.getD 0 0) = true)) : tl blankF l = l := by
  cases l with
  | nil => rfl
  | cons a l =>
    have hb : blankF a = false := by
      have := fun hb => h ⟨by simp, hb⟩
      simpa using this
    simp [tl, hb]
theorem tr_step {l : List UInt8} (h : l ≠ []) (hb : blankF (l.getD (l.length - 1) 0) = true) : tr blankF (subl l 0 (l.length - 1)) = tr blankF l := by
  rcases snoc_cases l with rfl | ⟨k, c, rfl⟩
  · exact absurd rfl h
  · have hb : blankF c = true := by simpa [List.getD] using hb
    have e : subl (k ++ [c]) 0 ((k ++ [c]).length - 1) = k := by simp [subl]
    rw [e, tr_snoc, if_pos hb]
theorem tr_end {l : List UInt8} (h : ¬ (l ≠ [] ∧ blankF (l.getD (l.length - 1) 0) = true)) : tr blankF l = l := by
  rcases snoc_cases l with rfl | ⟨k, c, rfl⟩
  · rfl
  · have hb : blankF c = false := by
      have := fun hb => h ⟨by simp, hb⟩
      simpa [List.getD] using this
    rw [tr_snoc, if_neg (by simp [hb])]

theorem low_take {a b : List UInt8} {k : Nat} (ha : k < a.length) (hb : k < b.length) (h : (a.take k).map lowB = (b.take k).map lowB) (hk : lowB (a.getD k 0) = lowB (b.getD k 0)) : (a.take (k + 1)).map lowB = (b.take (k + 1)).map lowB := by
  rw [take_succ_d a k ha, take_succ_d b k hb, List.map_append, List.map_append, h]
  simp only [List.map_cons, List.map_nil, hk]
theorem low_ne {a b : List UInt8} {k : Nat} (ha : k < a.length) (hb : k < b.length) (h : lowB (a.getD k 0) ≠ lowB (b.getD k 0)) : lowerF a ≠ lowerF b := by
  intro h2
  apply h
  have h3 := congrArg (fun l => l.getD k 0) h2
  simpa [lowerF, List.getD, ha, hb] using h3
theorem u8_ofInt {a b : UInt8} (h : (a.toNat : Int) = (b.toNat : Int)) : a = b := UInt8.toNat_inj.1 (by omega)

end Go.Proofs.YtlkdmbpbjhjkfaaDoor
