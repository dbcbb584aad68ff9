/- The contracts of package ostiarykit: bytes. -/
import Derived.Test.YtlkdmbpbjhjkfaaGreatDoorTy
namespace Go.Proofs.YtlkdmbpbjhjkfaaGreatDoor
set_option linter.unusedVariables false
set_option linter.unusedSimpArgs false
set_option maxRecDepth 100000

/-- A mark of the room behind what is lent. -/
def mark (i : Nat) : UInt8 := UInt8.ofNat (160 + i % 90)
def marks (n : Nat) : List UInt8 := [mark n, mark (n + 1), mark (n + 2)]
def flip (c : UInt8) : UInt8 := c ^^^ 90
/-- The first k bytes written over. -/
def overTo (l : List UInt8) (k : Nat) : List UInt8 := (l.take k).map flip ++ l.drop k
theorem overTo_len (l : List UInt8) (k : Nat) : (overTo l k).length = l.length := by simp [overTo]; omega
theorem overTo_zero (l : List UInt8) : overTo l 0 = l := by simp [overTo]
theorem overTo_all (l : List UInt8) : overTo l l.length = l.map flip := by simp [overTo]
theorem overTo_get (l : List UInt8) (k : Nat) (h : k < l.length) : (overTo l k).getD k 0 = l.getD k 0 := by
  have hl : ((l.take k).map flip).length = k := by simp; omega
  simp only [overTo, List.getD]
  rw [List.getElem?_append_right (by omega), hl, Nat.sub_self, List.getElem?_drop, Nat.add_zero]
theorem overTo_set (l : List UInt8) (k : Nat) (h : k < l.length) : (overTo l k).set k (flip (l.getD k 0)) = overTo l (k + 1) := by
  have hl : ((l.take k).map flip).length = k := by simp; omega
  unfold overTo
  rw [List.set_append_right _ _ (by omega), hl, Nat.sub_self]
  rw [List.drop_eq_getElem_cons h, List.set_cons_zero]
  rw [List.take_succ_eq_append_getElem h, List.map_append]
  simp [List.getD, h]
theorem xor_byte (u : UInt8) : IntKind.u8.wrap (((BitVec.ofInt 8 (u.toNat : Int)) ^^^ (BitVec.ofInt 8 90)).toNat : Int) = ((flip u).toNat : Int) := by
  have h1 : BitVec.ofInt 8 (u.toNat : Int) = u.toBitVec := by
    apply BitVec.eq_of_toNat_eq
    have := u.toNat_lt
    simp
  have h2 : BitVec.ofInt 8 90 = (90 : UInt8).toBitVec := by decide
  rw [h1, h2, ← UInt8.toBitVec_xor]
  have := (u ^^^ 90).toNat_lt
  exact w8 (by omega) (by show (((u ^^^ 90).toNat : Nat) : Int) ≤ 255; omega)
theorem mark_val (j : Nat) : IntKind.u8.wrap (160 + (j : Int).tmod 90) = ((mark j).toNat : Int) := by
  have h : j % 90 < 90 := Nat.mod_lt _ (by omega)
  unfold mark
  rw [UInt8.toNat_ofNat_of_lt' (show 160 + j % 90 < 256 by omega)]
  rw [show (j : Int).tmod 90 = ((j % 90 : Nat) : Int) from by rw [Int.tmod_eq_emod_of_nonneg (by omega)]; omega]
  exact w8 (by omega) (by omega)
/-- Pick. -/
def pick (x n : Int) : Int := if n < 1 then 0 else x % n
theorem tmod_neg {x n : Int} (hn : 1 ≤ n) (h : x.tmod n < 0) : x.tmod n + n = x % n := by
  have h1 := Int.emod_nonneg x (show n ≠ 0 by omega)
  have h2 := Int.emod_lt_of_pos x (show 0 < n by omega)
  rw [Int.tmod_eq_emod] at h ⊢
  split at h <;> rename_i hc
  · omega
  · rw [if_neg hc]; omega
theorem tmod_pos {x n : Int} (hn : 1 ≤ n) (h : 0 ≤ x.tmod n) : x.tmod n = x % n := by
  have h1 := Int.emod_nonneg x (show n ≠ 0 by omega)
  have h2 := Int.emod_lt_of_pos x (show 0 < n by omega)
  rw [Int.tmod_eq_emod] at h ⊢
  split at h <;> rename_i hc
  · rw [if_pos hc]; omega
  · omega
theorem tmod_bd {x n : Int} (hn : 1 ≤ n) : - n < x.tmod n ∧ x.tmod n < n := by
  have h1 := Int.emod_nonneg x (show n ≠ 0 by omega)
  have h2 := Int.emod_lt_of_pos x (show 0 < n by omega)
  rw [Int.tmod_eq_emod]
  split <;> omega
/-- The marks that have been laid behind l. -/
def lentTo (l : List UInt8) (k : Nat) : List UInt8 := l ++ ((marks l.length).take k ++ List.replicate (3 - k) 0)
theorem lentTo_len (l : List UInt8) (k : Nat) (hk : k ≤ 3) : (lentTo l k).length = l.length + 3 := by simp [lentTo, marks]; omega
theorem lentTo_set (l : List UInt8) (k : Nat) (hk : k < 3) : (lentTo l k).set (l.length + k) (mark (l.length + k)) = lentTo l (k + 1) := by
  unfold lentTo
  rw [List.set_append_right _ _ (by omega), Nat.add_sub_cancel_left]
  congr 1
  have : k = 0 ∨ k = 1 ∨ k = 2 := by omega
  rcases this with rfl | rfl | rfl <;> simp [marks, List.replicate_succ]
theorem lentTo_all (l : List UInt8) : lentTo l 3 = l ++ marks l.length := by simp [lentTo, marks]
theorem copy_zero (l : List UInt8) : List.take (List.replicate (l.length + 3) (0 : UInt8)).length l ++ List.drop l.length (List.replicate (l.length + 3) 0) = lentTo l 0 := by
  rw [List.length_replicate, List.take_of_length_le (by omega), List.drop_replicate]
  simp [lentTo]

set_option maxHeartbeats 400000 in
theorem same_ok {w0 : World} {base : Nat} {H : List Seg} {A A2 : Option Addr} {C C2 : Nat} {l l2 : List UInt8} (h : Rd tyB w0 base H A C l) (h2 : Rd tyB w0 base H A2 C2 l2) :
    SCalls Tryz.prog 18 [.slice A l.length C, .slice A2 l2.length C2] w0 base (H) (fun v H' => v = .bool (decide (l = l2)) ∧ H' = H) := by
  refine SCalls.of_walk (n := 10) Tryz.func18 rfl rfl rfl fun cs => ?_
  refine At.seq ?_
  refine At.region ?_
  refine AtL.assign (.inl rfl) rfl rfl ?_
  refine AtL.done ?_
  refine At.seq ?_
  refine At.region ?_
  refine AtL.move (.inl rfl) rfl rfl ?_
  refine AtL.strOf h Tryz.underlying22 Tryz.underlying5 Tryz.underlying9 (.inl rfl) rfl rfl ?_
  refine AtL.move (.inl rfl) rfl rfl ?_
  refine AtL.strOf h2 Tryz.underlying22 Tryz.underlying5 Tryz.underlying9 (.inl rfl) rfl rfl ?_
  refine AtL.eqs (a := l) (b := l2) (.inl rfl) rfl rfl rfl ?_
  refine AtL.assign (.inl rfl) rfl rfl ?_
  refine AtL.done ?_
  exact At.ret Tryz.func18 rfl rfl (⟨rfl, rfl⟩)

set_option maxHeartbeats 400000 in
theorem pick_ok {w0 : World} {base : Nat} {H : List Seg} (x n : Int) (hn : n ≤ 4611686018427387904) :
    SCalls Tryz.prog 50 [.int .i64 x, .int .i64 n] w0 base (H) (fun v H' => v = int (pick x n) ∧ H' = H) := by
  refine SCalls.of_walk (n := 16) Tryz.func50 rfl rfl rfl fun cs => ?_
  refine At.seq ?_
  refine At.region ?_
  refine AtL.assign (.inl rfl) rfl rfl ?_
  refine AtL.done ?_
  refine At.seq ?_
  refine At.seq ?_
  refine At.region ?_
  refine AtL.move (.inl rfl) rfl rfl ?_
  refine AtL.lss (.inl rfl) rfl rfl rfl ?_
  refine AtL.done ?_
  refine At.cond rfl ?_ ?_
  · intro hc1
    have hc1 : (n : Int) < 1 := of_decide_eq_true hc1
    refine At.seq ?_
    refine At.region ?_
    refine AtL.assign (.inl rfl) rfl rfl ?_
    refine AtL.done ?_
    exact At.ret Tryz.func50 rfl rfl (⟨congrArg int (by rw [pick, if_pos hc1]), rfl⟩)
  · intro hc1
    have hc1 : ¬ ((n : Int) < 1) := of_decide_eq_false hc1
    refine At.skip ?_
    refine At.seq ?_
    refine At.region ?_
    refine AtL.move (.inl rfl) rfl rfl ?_
    refine AtL.move (.inl rfl) rfl rfl ?_
    refine AtL.rem (z := x.tmod n) (.inl rfl) rfl rfl rfl (by omega) rfl ?_
    refine AtL.assign (.inl rfl) rfl rfl ?_
    refine AtL.done ?_
    have hb := tmod_bd (x := x) (n := n) (by omega)
    refine At.seq ?_
    refine At.seq ?_
    refine At.region ?_
    refine AtL.move (.inl rfl) rfl rfl ?_
    refine AtL.lss (.inl rfl) rfl rfl rfl ?_
    refine AtL.done ?_
    refine At.cond rfl ?_ ?_
    · intro hc2
      have hc2 : (x.tmod n : Int) < 0 := of_decide_eq_true hc2
      refine At.region ?_
      refine AtL.move (.inl rfl) rfl rfl ?_
      refine AtL.move (.inl rfl) rfl rfl ?_
      refine AtL.add (z := (x.tmod n) + n) (.inl rfl) rfl rfl rfl (w64 (by omega) (by omega)) ?_
      refine AtL.assign (.inl rfl) rfl rfl ?_
      refine AtL.done ?_
      refine At.seq ?_
      refine At.region ?_
      refine AtL.move (.inl rfl) rfl rfl ?_
      refine AtL.assign (.inl rfl) rfl rfl ?_
      refine AtL.done ?_
      exact At.ret Tryz.func50 rfl rfl (⟨congrArg int (by rw [tmod_neg (by omega) hc2, pick, if_neg hc1]), rfl⟩)
    · intro hc2
      have hc2 : ¬ ((x.tmod n : Int) < 0) := of_decide_eq_false hc2
      refine At.skip ?_
      refine At.seq ?_
      refine At.region ?_
      refine AtL.move (.inl rfl) rfl rfl ?_
      refine AtL.assign (.inl rfl) rfl rfl ?_
      refine AtL.done ?_
      exact At.ret Tryz.func50 rfl rfl (⟨congrArg int (by rw [tmod_pos (by omega) (by omega), pick, if_neg hc1]), rfl⟩)

set_option maxHeartbeats 400000 in
theorem copy_ok {w0 : World} {base : Nat} {H : List Seg} {A : Option Addr} {C : Nat} {l : List UInt8} (h : Rd tyB w0 base H A C l) (hl : l.length ≤ 140737488355328) :
    SCalls Tryz.prog 24 [.slice A l.length C] w0 base (H) (fun v H' => ∃ A' C' s', Own tyB 5 A' C' l s' ∧ v = .slice A' l.length C' ∧ H' = s' :: H) := by
  refine SCalls.of_walk (n := 6) Tryz.func24 rfl rfl rfl fun cs => ?_
  refine At.seq ?_
  refine At.region ?_
  refine AtL.assign (.inl rfl) rfl rfl ?_
  refine AtL.done ?_
  refine At.seq ?_
  refine At.region ?_
  refine AtL.buildSlice (cs := []) Tryz.underlying22 tf_zero5 tf_sz5 rfl rfl (.inl rfl) rfl rfl rfl ?_
  intro b1
  refine AtL.own1 tyB (l := ([] : List UInt8)) rfl rfl (by first | decide | simp) ?_
  intro s2 o3
  refine AtL.move (.inl rfl) rfl rfl ?_
  refine AtL.append (l := []) (news := l) 0 tf_el22 rfl o3 (Rd.skip 1 h) (by first | omega | (simp only [List.length_append, List.length_cons, List.length_nil]; omega) | (simp; done) | (simp; omega)) (.inl rfl) rfl rfl rfl ?_
  intro A4 C5 s6 o7
  refine AtL.assign (.inl rfl) rfl rfl ?_
  refine AtL.done ?_
  exact At.ret Tryz.func24 rfl rfl (⟨_, _, _, o7, rfl, rfl⟩)

set_option maxHeartbeats 400000 in
theorem over_ok {w0 : World} {base : Nat} {H : List Seg} {A : Option Addr} {l r : List UInt8} {s : Seg} (o : OwnR tyB 5 A l r s) :
    SCalls Tryz.prog 19 [.slice A l.length (l.length + r.length)] w0 base (s :: H) (fun v H' => ∃ s', v = .tuple #[] ∧ H' = s' :: H) := by
  refine SCalls.of_walk (n := 22) Tryz.func19 rfl rfl rfl fun cs => ?_
  refine At.seq ?_
  refine At.region ?_
  refine AtL.move (.inl rfl) rfl rfl ?_
  refine AtL.move (.inl rfl) rfl rfl ?_
  refine AtL.capL Tryz.underlying22 (.inl rfl) rfl rfl ?_
  obtain ⟨A1, eA1, o2⟩ := OwnR.full o
  have o2 : Own tyB 5 A1 ((l.length + r.length)) (l ++ r) s := o2
  refine AtL.sliceFull (T := tyB) (l := l) (r := r) rfl (evBound_some rfl rfl) Tryz.underlying22 tf_sz5 (.inl rfl) rfl rfl eA1 ?_
  refine AtL.assign (.inl rfl) rfl rfl ?_
  refine AtL.done ?_
  refine At.seq ?_
  refine At.region ?_
  refine AtL.assign (.inl rfl) rfl rfl ?_
  refine AtL.done ?_
  refine At.block ?_
  refine At.loop2 (fun (k : Nat) (s2 : Seg) => [(2, .slice A1 (overTo (l ++ r) k).length (l.length + r.length)), (3, .int .i64 (k : Int))]) (fun (k : Nat) (s2 : Seg) => s2 :: H) (fun (k : Nat) (s2 : Seg) => k ≤ (l ++ r).length ∧ Own tyB 5 A1 ((l.length + r.length)) (overTo (l ++ r) k) s2) (fun (k : Nat) (s2 : Seg) => (l ++ r).length - k) 0 s (⟨Nat.zero_le _, by rw [overTo_zero]; exact o2⟩) ⟨rfl, rfl, trivial⟩ rfl ?_
  rintro k s2 ⟨hk, ho⟩ ihL1
  have hlen := overTo_len (l ++ r) k
  have hcap := Own.cap_le ho
  have hle := Own.le_cap ho
  refine At.seq ?_
  refine At.seq ?_
  refine At.region ?_
  refine AtL.move (.inl rfl) rfl rfl ?_
  refine AtL.move (.inl rfl) rfl rfl ?_
  refine AtL.lenL Tryz.underlying22 (.inl rfl) rfl rfl ?_
  refine AtL.lss (.inl rfl) rfl rfl rfl ?_
  refine AtL.done ?_
  refine At.cond rfl ?_ ?_
  · intro hc1
    have hc1 : (k : Int) < ((overTo (l ++ r) k).length : Int) := of_decide_eq_true hc1
    refine At.skip ?_
    refine At.seq ?_
    refine At.block ?_
    refine At.region ?_
    refine AtL.move (.inl rfl) rfl rfl ?_
    refine AtL.move (.inl rfl) rfl rfl ?_
    refine AtL.move (.inl rfl) rfl rfl ?_
    refine AtL.move (.inl rfl) rfl rfl ?_
    refine AtL.indexL k (ho.rd (i := 0) rfl) Tryz.underlying22 tf_sz5 (.inl rfl) rfl rfl rfl rfl (by omega) ?_
    refine AtL.load (v := .int .u8 (((overTo (l ++ r) k).getD k 0).toNat : Int)) tf_flat5 (.inl rfl) rfl rfl (Rd.cell0 (ho.rd (i := 0) rfl) (getD_some 0 (by omega)) rfl) ?_
    refine AtL.bxor (z := (flip ((overTo (l ++ r) k).getD k 0)).toNat) (.inl rfl) rfl rfl rfl (xor_byte _) ?_
    refine AtL.indexL k (ho.rd (i := 0) rfl) Tryz.underlying22 tf_sz5 (.inl rfl) rfl rfl rfl rfl (by omega) ?_
    refine AtL.setIdx (u := (flip ((overTo (l ++ r) k).getD k 0))) 0 k tf_sz5 rfl ho (by omega) (.inl rfl) rfl rfl ?_
    intro s3 o4
    refine AtL.relen (m := ((overTo (l ++ r) k).set k (flip ((overTo (l ++ r) k).getD k 0))).length) 2 rfl (List.length_set) ?_
    refine AtL.done ?_
    refine At.inBlock ?_
    refine At.region ?_
    refine AtL.move (.inl rfl) rfl rfl ?_
    refine AtL.add (z := (k : Int) + 1) (.inl rfl) rfl rfl rfl (w64 (by omega) (by omega)) ?_
    refine AtL.assign (.inl rfl) rfl rfl ?_
    refine AtL.done ?_
    refine ihL1 (k + 1) s3 (⟨by omega, by rw [← overTo_set _ _ (by omega), ← overTo_get _ _ (by omega)]; exact o4⟩) (by omega) _ ?_
    exact ⟨(by first | rfl | exact slLen (by simp [overTo_len]) | exact intEq (by omega) | exact intEq (by simp [overTo_len]) | exact slLen (by simp [overTo_len]; omega)), (by first | rfl | exact slLen (by simp [overTo_len]) | exact intEq (by omega) | exact intEq (by simp [overTo_len]) | exact slLen (by simp [overTo_len]; omega)), trivial⟩
  · intro hc1
    have hc1 : ¬ ((k : Int) < ((overTo (l ++ r) k).length : Int)) := of_decide_eq_false hc1
    refine At.exit rfl ?_
    exact At.end_ Tryz.func19 rfl rfl (⟨_, rfl, rfl⟩)

theorem over_own {w0 : World} {base : Nat} {H : List Seg} {A : Option Addr} {C : Nat} {l : List UInt8} {s : Seg} (o : Own tyB 5 A C l s) :
    SCalls Tryz.prog 19 [.slice A l.length C] w0 base (s :: H) (fun v H' => ∃ s', v = .tuple #[] ∧ H' = s' :: H) := by
  obtain ⟨r, rfl, h⟩ := o
  exact over_ok h

theorem lent_cut1 (l : List UInt8) : subl (lentTo l 3 ++ []) 0 l.length = l := by
  rw [lentTo_all, List.append_nil]
  unfold subl
  simp
theorem lent_cut2 (l : List UInt8) : subl (lentTo l 3 ++ []) l.length (l.length + 3) = marks l.length := by
  rw [lentTo_all, List.append_nil]
  unfold subl
  simp [marks]

set_option maxHeartbeats 400000 in
theorem lent_ok {w0 : World} {base : Nat} {H : List Seg} {A : Option Addr} {C : Nat} {l : List UInt8} (h : Rd tyB w0 base H A C l) (hl : l.length ≤ 140737488355000) :
    SCalls Tryz.prog 13 [.slice A l.length C] w0 base (H) (fun v H' => ∃ A' s', OwnR tyB 5 A' l (marks l.length) s' ∧ v = .slice A' l.length (l.length + 3) ∧ H' = s' :: H) := by
  refine SCalls.of_walk (n := 31) Tryz.func13 rfl rfl rfl fun cs => ?_
  refine At.seq ?_
  refine At.region ?_
  refine AtL.assign (.inl rfl) rfl rfl ?_
  refine AtL.done ?_
  refine At.seq ?_
  refine At.region ?_
  refine AtL.move (.inl rfl) rfl rfl ?_
  refine AtL.lenL Tryz.underlying22 (.inl rfl) rfl rfl ?_
  refine AtL.add (z := (l.length : Int) + 3) (.inl rfl) rfl rfl rfl (w64 (by omega) (by omega)) ?_
  refine AtL.makeSlice (n := l.length + 3) (c := l.length + 3) tf_el22 (by decide) (.inl rfl) rfl rfl rfl (by omega) (by omega) ?_
  intro A1 s2 o3 q4
  refine AtL.assign (.inl rfl) rfl rfl ?_
  refine AtL.done ?_
  refine At.seq ?_
  refine At.region ?_
  refine AtL.move (.inl rfl) rfl rfl ?_
  refine AtL.move (.inl rfl) rfl rfl ?_
  refine AtL.copy 0 Tryz.underlying22 tf_sz5 rfl o3 (Rd.skip 1 h) (.inl rfl) rfl rfl rfl ?_
  intro s5 o6
  refine AtL.relen (m := (l.take (List.replicate (l.length + 3) (0 : UInt8)).length ++ (List.replicate (l.length + 3) (0 : UInt8)).drop l.length).length) 3 rfl (copy_len _ _) ?_
  refine AtL.done ?_
  refine At.seq ?_
  refine At.seq ?_
  refine At.region ?_
  refine AtL.move (.inl rfl) rfl rfl ?_
  refine AtL.lenL Tryz.underlying22 (.inl rfl) rfl rfl ?_
  refine AtL.assign (.inl rfl) rfl rfl ?_
  refine AtL.done ?_
  refine At.block ?_
  refine At.loop2 (fun (j : Nat) (s2 : Seg) => [(0, .slice A l.length C), (3, .slice A1 (lentTo l j).length (l.length + 3)), (4, .int .i64 ((l.length + j : Nat) : Int))]) (fun (j : Nat) (s2 : Seg) => s2 :: H) (fun (j : Nat) (s2 : Seg) => j ≤ 3 ∧ Own tyB 5 A1 (l.length + 3) (lentTo l j) s2) (fun (j : Nat) (s2 : Seg) => 3 - j) 0 s5 (⟨by omega, by rw [← copy_zero]; exact o6⟩) ⟨rfl, slLen (by rw [copy_zero]), rfl, trivial⟩ rfl ?_
  rintro j s2 ⟨hj, ho⟩ ihL1
  have hlen := lentTo_len l j hj
  have hb := tmod_bd (x := ((l.length + j : Nat) : Int)) (n := 90) (by omega)
  refine At.seq ?_
  refine At.seq ?_
  refine At.region ?_
  refine AtL.move (.inl rfl) rfl rfl ?_
  refine AtL.move (.inl rfl) rfl rfl ?_
  refine AtL.lenL Tryz.underlying22 (.inl rfl) rfl rfl ?_
  refine AtL.lss (.inl rfl) rfl rfl rfl ?_
  refine AtL.done ?_
  refine At.cond rfl ?_ ?_
  · intro hc1
    have hc1 : ((l.length + j : Nat) : Int) < ((lentTo l j).length : Int) := of_decide_eq_true hc1
    refine At.skip ?_
    refine At.seq ?_
    refine At.block ?_
    refine At.region ?_
    refine AtL.move (.inl rfl) rfl rfl ?_
    refine AtL.move (.inl rfl) rfl rfl ?_
    refine AtL.move (.inl rfl) rfl rfl ?_
    refine AtL.rem (z := (((l.length + j : Nat) : Int)).tmod 90) (.inl rfl) rfl rfl rfl (by omega) rfl ?_
    refine AtL.add (z := 160 + ((((l.length + j : Nat) : Int)).tmod 90)) (.inl rfl) rfl rfl rfl (w64 (by omega) (by omega)) ?_
    refine AtL.convInt (z := (mark (l.length + j)).toNat) Tryz.underlying3 Tryz.underlying5 (.inl rfl) rfl rfl (mark_val _) ?_
    refine AtL.indexL (l.length + j : Nat) (ho.rd (i := 0) rfl) Tryz.underlying22 tf_sz5 (.inl rfl) rfl rfl rfl rfl (by omega) ?_
    refine AtL.setIdx (u := (mark (l.length + j))) 0 (l.length + j : Nat) tf_sz5 rfl ho (by omega) (.inl rfl) rfl rfl ?_
    intro s7 o8
    refine AtL.relen (m := ((lentTo l j).set (l.length + j : Nat) (mark (l.length + j))).length) 3 rfl (List.length_set) ?_
    refine AtL.done ?_
    refine At.inBlock ?_
    refine At.region ?_
    refine AtL.move (.inl rfl) rfl rfl ?_
    refine AtL.add (z := ((l.length + j : Nat) : Int) + 1) (.inl rfl) rfl rfl rfl (w64 (by omega) (by omega)) ?_
    refine AtL.assign (.inl rfl) rfl rfl ?_
    refine AtL.done ?_
    refine ihL1 (j + 1) s7 (⟨by omega, by rw [← lentTo_set _ _ (by omega)]; exact o8⟩) (by omega) _ ?_
    exact ⟨rfl, slLen (by rw [lentTo_set _ _ (by omega)]), rfl, trivial⟩
  · intro hc1
    have hc1 : ¬ (((l.length + j : Nat) : Int) < ((lentTo l j).length : Int)) := of_decide_eq_false hc1
    have ej : j = 3 := by omega
    subst ej
    obtain ⟨rr, hrr, hR⟩ := ho
    have hr0 : rr = [] := List.eq_nil_of_length_eq_zero (by omega)
    subst hr0
    refine At.exit rfl ?_
    refine At.seq ?_
    refine At.region ?_
    refine AtL.move (.inl rfl) rfl rfl ?_
    refine AtL.move (.inl rfl) rfl rfl ?_
    refine AtL.lenL Tryz.underlying22 (.inl rfl) rfl rfl ?_
    refine AtL.sliceX (T := tyB) (l := lentTo l 3) (r := []) 0 l.length (l.length + 3) hR hrr rfl (evBound_some rfl rfl) rfl (by intro h; cases h) (Nat.zero_le _) (by omega) (Nat.le_refl _) Tryz.underlying22 tf_sz5 (.inl rfl) rfl rfl ?_
    rw [lent_cut1, lent_cut2, Nat.sub_zero]
    intro A9 o10
    refine AtL.assign (.inl rfl) rfl rfl ?_
    refine AtL.done ?_
    exact At.ret Tryz.func13 rfl rfl (⟨_, _, o10, rfl, rfl⟩)

set_option maxHeartbeats 400000 in
theorem kept_ok {w0 : World} {base : Nat} {H : List Seg} {A A2 : Option Addr} {C2 : Nat} {l : List UInt8} {s : Seg} (o : OwnR tyB 5 A l (marks l.length) s) (h : Rd tyB w0 base H A2 C2 l) (hl : l.length ≤ 140737488355000) :
    SCalls Tryz.prog 20 [.slice A l.length (l.length + 3), .slice A2 l.length C2] w0 base (s :: H) (fun v H' => ∃ s', v = .bool true ∧ H' = s' :: s :: H) := by
  refine SCalls.of_walk (n := 23) Tryz.func20 rfl rfl rfl fun cs => ?_
  refine At.seq ?_
  refine At.region ?_
  refine AtL.assign (.inl rfl) rfl rfl ?_
  refine AtL.done ?_
  refine At.seq ?_
  obtain ⟨A1, eA1, o2⟩ := OwnR.full o
  have o2 : Own tyB 5 A1 ((l.length + 3)) (l ++ (marks l.length)) s := o2
  refine At.draw (es := [11]) (pv := [(0, .slice A l.length (l.length + 3)), (1, .int .i64 (l.length : Int)), (2, .slice A2 l.length C2), (3, .int .i64 (l.length : Int)), (4, .bool true), (5, .bool true), (6, .slice A l.length (l.length + 3)), (7, .slice A l.length (l.length + 3)), (8, .int .i64 ((l.length + 3) : Int)), (9, .slice A1 (l ++ (marks l.length)).length (l.length + 3)), (10, .slice A2 l.length C2), (12, .slice A2 l.length C2), (13, .int .i64 (l.length : Int)), (14, .int .i64 ((l.length : Int) + 3))]) tf_mixed (by kernel_rfl) (by kernel_rfl) (by kernel_rfl) ?_
  refine ⟨⟨.inr ⟨_, rfl, rfl, .inl ⟨rfl, Do.move rfl⟩⟩, .inr ⟨_, rfl, rfl, .inl ⟨rfl, Do.lenL Tryz.underlying22 rfl⟩⟩, .inr ⟨_, rfl, rfl, .inl ⟨rfl, Do.move rfl⟩⟩, .inr ⟨_, rfl, rfl, .inl ⟨rfl, Do.lenL Tryz.underlying22 rfl⟩⟩, .inr ⟨_, rfl, rfl, .inl ⟨rfl, Do.asBool (Do.eqi rfl rfl) (decide_eq_true rfl)⟩⟩, .inr ⟨_, rfl, rfl, .inl ⟨rfl, Do.move rfl⟩⟩, .inr ⟨_, rfl, rfl, .inl ⟨⟨_, _, _, rfl, rfl, rfl, rfl⟩, Do.move rfl⟩⟩, .inr ⟨_, rfl, rfl, .inl ⟨⟨_, _, _, rfl, rfl, rfl, rfl⟩, Do.move rfl⟩⟩, .inr ⟨_, rfl, rfl, .inl ⟨⟨_, _, _, rfl, rfl, rfl, rfl⟩, Do.capL Tryz.underlying22 rfl⟩⟩, .inr ⟨_, rfl, rfl, .inl ⟨⟨_, _, _, rfl, rfl, rfl, rfl⟩, Do.sliceFull (T := tyB) (l := l) (r := marks l.length) rfl (evBound_some rfl rfl) Tryz.underlying22 tf_sz5 rfl eA1⟩⟩, .inr ⟨_, rfl, rfl, .inl ⟨⟨_, _, _, rfl, rfl, rfl, rfl⟩, Do.move rfl⟩⟩, .inr ⟨_, rfl, rfl, .inl ⟨⟨_, _, _, rfl, rfl, rfl, rfl⟩, Do.move rfl⟩⟩, .inr ⟨_, rfl, rfl, .inl ⟨⟨_, _, _, rfl, rfl, rfl, rfl⟩, Do.lenL Tryz.underlying22 rfl⟩⟩, .inr ⟨_, rfl, rfl, .inl ⟨⟨_, _, _, rfl, rfl, rfl, rfl⟩, Do.add (z := (l.length : Int) + 3) rfl rfl (w64 (by omega) (by omega))⟩⟩, trivial⟩, rfl, rfl, by kernel_rfl, _, rfl, rfl, ⟨_, _, _, rfl, rfl, rfl, rfl⟩, _, Do.call tf_body13 rfl (lent_ok (l := l) (Rd.skip 1 h) (by omega)), ?_⟩
  rintro _ _ ⟨A3, s4, o5, rfl, rfl⟩
  obtain ⟨A6, eA6, o7⟩ := OwnR.full o5
  have o7 : Own tyB 5 A6 (l.length + 3) (l ++ (marks l.length)) s4 := o7
  refine ⟨[(15, .slice A6 (l ++ (marks l.length)).length (l.length + 3)), (16, .bool true), (17, .bool true), (18, .bool true)], rfl, ?_⟩
  refine ⟨⟨.inr ⟨_, rfl, rfl, .inl ⟨⟨_, _, _, rfl, rfl, rfl, rfl⟩, Do.sliceFull (T := tyB) (l := l) (r := marks l.length) rfl (evBound_some rfl rfl) Tryz.underlying22 tf_sz5 rfl eA6⟩⟩, .inr ⟨_, rfl, rfl, .inl ⟨⟨_, _, _, rfl, rfl, rfl, rfl⟩, Do.asBool (Do.call tf_body18 rfl (same_ok (l := l ++ (marks l.length)) (l2 := l ++ (marks l.length)) (o2.rd (i := 1) rfl) (o7.rd (i := 0) rfl))) (decide_eq_true rfl)⟩⟩, .inr ⟨_, rfl, rfl, .inl ⟨rfl, Do.pickT rfl rfl⟩⟩, .inr ⟨_, rfl, rfl, .inl ⟨rfl, Do.assign rfl⟩⟩, .inl (by kernel_rfl), .inl (by kernel_rfl), .inl (by kernel_rfl), .inl (by kernel_rfl), .inl (by kernel_rfl), .inl (by kernel_rfl), .inr ⟨_, rfl, rfl, .inl ⟨⟨_, _, _, rfl, rfl, rfl, rfl⟩, Do.move rfl⟩⟩, .inr ⟨_, rfl, rfl, .inl ⟨⟨_, _, _, rfl, rfl, rfl, rfl⟩, Do.move rfl⟩⟩, .inr ⟨_, rfl, rfl, .inl ⟨⟨_, _, _, rfl, rfl, rfl, rfl⟩, Do.capL Tryz.underlying22 rfl⟩⟩, .inr ⟨_, rfl, rfl, .inl ⟨⟨_, _, _, rfl, rfl, rfl, rfl⟩, Do.sliceFull (T := tyB) (l := l) (r := marks l.length) rfl (evBound_some rfl rfl) Tryz.underlying22 tf_sz5 rfl eA1⟩⟩, .inl (by kernel_rfl), .inr ⟨_, rfl, rfl, .inl ⟨⟨_, _, _, rfl, rfl, rfl, rfl⟩, Do.move rfl⟩⟩, .inr ⟨_, rfl, rfl, .inl ⟨⟨_, _, _, rfl, rfl, rfl, rfl⟩, Do.lenL Tryz.underlying22 rfl⟩⟩, .inr ⟨_, rfl, rfl, .inl ⟨⟨_, _, _, rfl, rfl, rfl, rfl⟩, Do.add (z := (l.length : Int) + 3) rfl rfl (w64 (by omega) (by omega))⟩⟩, trivial⟩, by kernel_rfl, ?_⟩
  refine At.mono (E' := [(4, .bool true)]) ⟨rfl, trivial⟩ ?_
  exact At.ret Tryz.func20 rfl rfl (⟨_, rfl, rfl⟩)

end Go.Proofs.YtlkdmbpbjhjkfaaGreatDoor
