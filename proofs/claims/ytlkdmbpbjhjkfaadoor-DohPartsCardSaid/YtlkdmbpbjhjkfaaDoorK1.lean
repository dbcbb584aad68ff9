/- The contracts of package ostiarykit: bytes. -/
import Derived.Test.YtlkdmbpbjhjkfaaDoorTy
namespace Go.Proofs.YtlkdmbpbjhjkfaaDoor
set_option linter.unusedVariables false
set_option linter.unusedSimpArgs false
set_option maxRecDepth 100000

/-- A mark of the room behind what is lent. -/
def mark (i : Nat) : UInt8 := UInt8.ofNat (160 + i % 90)
def marks (n : Nat) : List UInt8 := [mark n, mark (n + 1), mark (n + 2)]
def flip (c : UInt8) : UInt8 := c ^^^ 90
/-- The first k bytes written over. -/
def overTo (l : List UInt8) (k : Nat) : List UInt8 := (l.take k).map flip ++ l.drop k
theorem overTo_len (l : List UInt8) (k : Nat) : (overTo l k).length = l.length := by simp [overTo]; omega
theorem overTo_zero (l : List UInt8) : overTo l 0 = l := by simp [overTo]
theorem overTo_all (l : List UInt8) : overTo l l.length = l.map flip := by simp [overTo]
theorem overTo_get (l : List UInt8) (k : Nat) (h : k < l.length) : (overTo l k).getD k 0 = l.getD k 0 := by
  have hl : ((l.take k).map flip).length = k := by simp; omega
  simp only [overTo, List.getD]
  rw [List.getElem?_append_right (by omega), hl, Nat.sub_self, List.getElem?_drop, Nat.add_zero]
theorem overTo_set (l : List UInt8) (k : Nat) (h : k < l.length) : (overTo l k).set k (flip (l.getD k 0)) = overTo l (k + 1) := by
  have hl : ((l.take k).map flip).length = k := by simp; omega
  unfold overTo
  rw [List.set_append_right _ _ (by omega), hl, Nat.sub_self]
  rw [List.drop_eq_getElem_cons h, List.set_cons_zero]
  rw [List.take_succ_eq_append_getElem h, List.map_append]
  simp [List.getD, h]
theorem xor_byte (u : UInt8) : IntKind.u8.wrap (((BitVec.ofInt 8 (u.toNat : Int)) ^^^ (BitVec.ofInt 8 90)).toNat : Int) = ((flip u).toNat : Int) := by
  have h1 : BitVec.ofInt 8 (u.toNat : Int) = u.toBitVec := by
    apply BitVec.eq_of_toNat_eq
    have := u.toNat_lt
    simp
  have h2 : BitVec.ofInt 8 90 = (90 : UInt8).toBitVec := by decide
  rw [h1, h2, ← UInt8.toBitVec_xor]
  have := (u ^^^ 90).toNat_lt
  exact w8 (by omega) (by show (((u ^^^ 90).toNat : Nat) : Int) ≤ 255; omega)
theorem mark_val (j : Nat) : IntKind.u8.wrap (160 + (j : Int).tmod 90) = ((mark j).toNat : Int) := by
  have h : j % 90 < 90 := Nat.mod_lt _ (by omega)
  unfold mark
  rw [UInt8.toNat_ofNat_of_lt' (show 160 + j % 90 < 256 by omega)]
  rw [show (j : Int).tmod 90 = ((j % 90 : Nat) : Int) from by rw [Int.tmod_eq_emod_of_nonneg (by omega)]; omega]
  exact w8 (by omega) (by omega)
/-- Pick. -/
def pick (x n : Int) : Int := if n < 1 then 0 else x % n
theorem tmod_neg {x n : Int} (hn : 1 ≤ n) (h : x.tmod n < 0) : x.tmod n + n = x % n := by
  have h1 := Int.emod_nonneg x (show n ≠ 0 by omega)
  have h2 := Int.emod_lt_of_pos x (show 0 < n by omega)
  rw [Int.tmod_eq_emod] at h ⊢
  split at h <;> rename_i hc
  · omega
  · rw [if_neg hc]; omega
theorem tmod_pos {x n : Int} (hn : 1 ≤ n) (h : 0 ≤ x.tmod n) : x.tmod n = x % n := by
  have h1 := Int.emod_nonneg x (show n ≠ 0 by omega)
  have h2 := Int.emod_lt_of_pos x (show 0 < n by omega)
  rw [Int.tmod_eq_emod] at h ⊢
  split at h <;> rename_i hc
  · rw [if_pos hc]; omega
  · omega
theorem tmod_bd {x n : Int} (hn : 1 ≤ n) : - n < x.tmod n ∧ x.tmod n < n := by
  have h1 := Int.emod_nonneg x (show n ≠ 0 by omega)
  have h2 := Int.emod_lt_of_pos x (show 0 < n by omega)
  rw [Int.tmod_eq_emod]
  split <;> omega
/-- The marks that have been laid behind l. -/
def lentTo (l : List UInt8) (k : Nat) : List UInt8 := l ++ ((marks l.length).take k ++ List.replicate (3 - k) 0)
theorem lentTo_len (l : List UInt8) (k : Nat) (hk : k ≤ 3) : (lentTo l k).length = l.length + 3 := by simp [lentTo, marks]; omega
theorem lentTo_set (l : List UInt8) (k : Nat) (hk : k < 3) : (lentTo l k).set (l.length + k) (mark (l.length + k)) = lentTo l (k + 1) := by
  unfold lentTo
  rw [List.set_append_right _ _ (by omega), Nat.add_sub_cancel_left]
  congr 1
  have : k = 0 ∨ k = 1 ∨ k = 2 := by omega
  rcases this with rfl | rfl | rfl <;> simp [marks, List.replicate_succ]
theorem lentTo_all (l : List UInt8) : lentTo l 3 = l ++ marks l.length := by simp [lentTo, marks]
theorem copy_zero (l : List UInt8) : List.take (List.replicate (l.length + 3) (0 : UInt8)).length l ++ List.drop l.length (List.replicate (l.length + 3) 0) = lentTo l 0 := by
  rw [List.length_replicate, List.take_of_length_le (by omega), List.drop_replicate]
  simp [lentTo]

set_option maxHeartbeats 400000 in
theorem same_ok {w0 : World} {base : Nat} {H : List Seg} {A A2 : Option Addr} {C C2 : Nat} {l l2 : List UInt8} (h : Rd tyB w0 base H A C l) (h2 : Rd tyB w0 base H A2 C2 l2) :
    SCalls Tryd.prog 10 [.slice A l.length C, .slice A2 l2.length C2] w0 base (H) (fun v H' => v = .bool (decide (l = l2)) ∧ H' = H) := by
  refine SCalls.of_walk (n := 10) Tryd.func10 rfl rfl rfl fun cs => ?_
  refine At.seq ?_
  refine At.region ?_
  refine AtL.assign (.inl rfl) rfl rfl ?_
  refine AtL.done ?_
  refine At.seq ?_
  refine At.region ?_
  refine AtL.move (.inl rfl) rfl rfl ?_
  refine AtL.strOf h Tryd.underlying22 Tryd.underlying5 Tryd.underlying9 (.inl rfl) rfl rfl ?_
  refine AtL.move (.inl rfl) rfl rfl ?_
  refine AtL.strOf h2 Tryd.underlying22 Tryd.underlying5 Tryd.underlying9 (.inl rfl) rfl rfl ?_
  refine AtL.eqs (a := l) (b := l2) (.inl rfl) rfl rfl rfl ?_
  refine AtL.assign (.inl rfl) rfl rfl ?_
  refine AtL.done ?_
  exact At.ret Tryd.func10 rfl rfl (⟨rfl, rfl⟩)

theorem lent_cut1 (l : List UInt8) : subl (lentTo l 3 ++ []) 0 l.length = l := by
  rw [lentTo_all, List.append_nil]
  unfold subl
  simp
theorem lent_cut2 (l : List UInt8) : subl (lentTo l 3 ++ []) l.length (l.length + 3) = marks l.length := by
  rw [lentTo_all, List.append_nil]
  unfold subl
  simp [marks]

end Go.Proofs.YtlkdmbpbjhjkfaaDoor
