/- The tables of the program. -/
import Derived.Test.YtlkdmbpbjhjkfaaGreatDoorH5
import Derived.Test.YtlkdmbpbjhjkfaaGreatDoorLgS
namespace Go.Proofs.YtlkdmbpbjhjkfaaGreatDoor
set_option linter.unusedVariables false
set_option linter.unusedSimpArgs false
set_option maxRecDepth 100000

/-- The tables of package utf8, as the program lays them. -/
structure Tabs (w0 : World) (base : Nat) : Prop where
  lt : 4 < base
  lt2 : 5 < base
  first : ∀ c, c < 256 → w0.cell? ⟨4, c, none⟩ = some (.int .u8 (Lib.firstT c))
  lt0 : 0 < base
  max : ∃ m : Int, w0.cell? ⟨0, 0, none⟩ = some (int m)
  acc : ∀ i, i < 16 → w0.cell? ⟨5, 2 * i, none⟩ = some (.int .u8 (Lib.accLo i)) ∧ w0.cell? ⟨5, 2 * i + 1, none⟩ = some (.int .u8 (Lib.accHi i))
theorem Tabs.two {w0 : World} {base : Nat} {H : List Seg} (T : Tabs w0 base) (i : Nat) (hi : i < 16) {lo hi' : Int} (h1 : (Lib.accLo i : Int) = lo) (h2 : (Lib.accHi i : Int) = hi') : ∀ j v, ([.int .u8 lo, .int .u8 hi'] : List Value)[j]? = some v → Cell w0 base H ((eaddr (some ⟨5, 0, none⟩) (i * 2)).add j) v := by
  intro j v hj
  obtain ⟨a1, a2⟩ := T.acc i hi
  have e : eaddr (some ⟨5, 0, none⟩) (i * 2) = ⟨5, 2 * i, none⟩ := by simp [eaddr, addr_add]; omega
  rw [e, addr_add]
  match j, hj with
  | 0, hj => cases hj; rw [← h1]; exact Cell.below T.lt2 a1
  | 1, hj => cases hj; rw [← h2]; exact Cell.below T.lt2 a2
theorem Tabs.one {w0 : World} {base : Nat} {H : List Seg} (T : Tabs w0 base) (u : UInt8) {x : Int} (h : (Lib.firstT u.toNat : Int) = x) : Cell w0 base H (eaddr (some ⟨4, 0, none⟩) (u.toNat * 1)) (.int .u8 x) := by
  rw [← h]
  exact Cell.tab T.lt (T.first _ u.toNat_lt)
/-- What is asked here of a decoded rune and its width. -/
def decOk (l : List UInt8) (r : Int) (n : Nat) : Prop := 1 ≤ n ∧ n ≤ l.length ∧ (∀ i, 1 ≤ i → i < n → 128 ≤ (l.getD i 0).toNat) ∧ (r = 65533 ∨ n = 2 ∨ (n = 3 ∧ 2048 ≤ r ∧ r ≤ 65535) ∨ (n = 4 ∧ 2048 ≤ r ∧ r ≤ 2147483647))

end Go.Proofs.YtlkdmbpbjhjkfaaGreatDoor
