/- A logic for walks: contracts of the library, taken over. -/
import Derived.Test.YtlkdmbpbjhjkfaaGreatDoorLgT
import Derived.Lib.Bytealg
namespace Go.Proofs.YtlkdmbpbjhjkfaaGreatDoor
open Go.RowKit (Below)
set_option linter.unusedVariables false
set_option linter.unusedSimpArgs false

theorem Sep.drewN {w0 : World} {base : Nat} {w : World} {H : List Seg} (S : Sep w0 base w H) (n : Nat) : Sep w0 base (w.drewN n) H := S.same rfl rfl rfl rfl
theorem Sep.kept {w0 : World} {base : Nat} {w w' : World} {H : List Seg} (S : Sep w0 base w H) (h : Below w.heap.size w w') : Sep w0 base w' H := by
  refine ⟨⟨h.os.trans S.below.os, h.tape.trans S.below.tape, h.output.trans S.below.output, Nat.le_trans S.below.size h.size, fun k hk => (h.block k (Nat.lt_of_lt_of_le hk S.base_le)).trans (S.below.block k hk)⟩, S.le, fun p hp => ⟨(S.mem p hp).1, (h.block p.1 (S.lt hp)).trans (S.mem p hp).2⟩, S.nodup⟩
section calls
variable {P : Program} {f : FuncId} {args : List Value} {w0 : World} {base : Nat} {H : List Seg}
theorem SCalls.of_draws {v : Value} (h : ∀ w, Sep w0 base w H → Calls P f args.toArray w fun e w' => e = .returned v ∧ ∃ n, w' = w.drewN n) : SCalls P f args w0 base H (fun u H' => u = v ∧ H' = H) :=
  fun w S => (h w S).mono fun e w' ⟨he, n, hw⟩ => ⟨v, H, he, ⟨rfl, rfl⟩, hw ▸ S.drewN n⟩
theorem SCalls.of_same {v : Value} (h : ∀ w, Sep w0 base w H → Calls P f args.toArray w fun e w' => e = .returned v ∧ w' = w) : SCalls P f args w0 base H (fun u H' => u = v ∧ H' = H) :=
  fun w S => (h w S).mono fun e w' ⟨he, hw⟩ => ⟨v, H, he, ⟨rfl, rfl⟩, hw ▸ S⟩
theorem SCalls.of_below {v : Value} (h : ∀ w, Sep w0 base w H → Calls P f args.toArray w fun e w' => e = .returned v ∧ Below w.heap.size w w') : SCalls P f args w0 base H (fun u H' => u = v ∧ H' = H) :=
  fun w S => (h w S).mono fun e w' ⟨he, hw⟩ => ⟨v, H, he, ⟨rfl, rfl⟩, S.kept hw⟩
theorem SCalls.of_alloc {v : Nat → Value} {o : Obj} (h : ∀ w, Sep w0 base w H → Calls P f args.toArray w fun e w' => e = .returned (v w.heap.size) ∧ ∃ n, w' = (w.alloc o).drewN n) : SCalls P f args w0 base H (fun u H' => ∃ b, u = v b ∧ H' = [(b, o)] :: H) :=
  fun w S => (h w S).mono fun e w' ⟨he, n, hw⟩ => ⟨_, _, he, ⟨w.heap.size, rfl, rfl⟩, hw ▸ (S.alloc o).drewN n⟩
/-- A cell below the blocks of one's own is as it was. -/
theorem Sep.cellBelow {w : World} (S : Sep w0 base w H) {b o : Nat} {v : Value} (hb : b < base) (h : w0.cell? ⟨b, o, none⟩ = some v) : w.cell? ⟨b, o, none⟩ = some v := by
  have h2 := S.below.block b hb
  rw [← h]
  simp only [World.cell?, h2]
end calls
end Go.Proofs.YtlkdmbpbjhjkfaaGreatDoor
