/- The parts of the proof that this law needs, in the order of their texts: the logic of walks, the plain laws, the walks. -/
import Derived.Test.YtbfabhdfmoiabaaGreatDoorQDB
namespace Go.Proofs.YtbfabhdfmoiabaaGreatDoor
set_option linter.unusedVariables false
set_option linter.unusedSimpArgs false
set_option maxRecDepth 100000
set_option maxHeartbeats 400000 in
theorem blen_ok {w0 : World} {base : Nat} {H : List Seg} {b : Nat} {y : Sl tyB 5} {m e lr : Int} {br : Bool} {off : Nat} (hl : y.l.length ≤ 1000000000) (ho : off ≤ y.l.length) :
    SCalls Tryz.prog 225 [.pointer (some ⟨b, 2, none⟩)] w0 base (y.s :: [(b, .cells #[.int .i64 m, .bool br, .slice y.A y.l.length y.C, .int .i64 (off : Int), .int .i8 lr, .int .i64 e] 125 (0, 0))] :: H) (fun v H' => v = int ((y.l.length - off : Nat) : Int) ∧ H' = y.s :: [(b, .cells #[.int .i64 m, .bool br, .slice y.A y.l.length y.C, .int .i64 (off : Int), .int .i8 lr, .int .i64 e] 125 (0, 0))] :: H) := by
  refine SCalls.of_walk (n := 13) Tryz.func225 rfl rfl rfl fun cs => ?_
  refine At.seq ?_
  refine At.region ?_
  refine AtL.assign (.inl rfl) rfl rfl ?_
  refine AtL.done ?_
  refine At.seq ?_
  refine At.draw (es := []) (pv := [(0, .pointer (some ⟨b, 2, none⟩)), (1, .pointer (some ⟨b, 2, none⟩)), (2, .pointer (some ⟨b, 2, none⟩)), (3, .slice y.A y.l.length y.C), (4, .int .i64 (y.l.length : Int)), (5, .pointer (some ⟨b, 2, none⟩)), (6, .pointer (some ⟨b, 2, none⟩)), (7, .pointer (some ⟨b, 3, none⟩)), (8, .int .i64 (off : Int)), (9, .int .i64 ((y.l.length - off : Nat) : Int)), (10, .int .i64 ((y.l.length - off : Nat) : Int))]) tf_mixed (by kernel_rfl) (by kernel_rfl) (by kernel_rfl) ?_
  refine ⟨⟨.inr ⟨_, rfl, rfl, .inl ⟨rfl, Do.move rfl⟩⟩, .inr ⟨_, rfl, rfl, .inl ⟨rfl, Do.nilCheck rfl⟩⟩, .inr ⟨_, rfl, rfl, .inl ⟨rfl, Do.fieldAddrB tf_fo123_0 rfl rfl⟩⟩, .inr ⟨_, rfl, rfl, .inl ⟨rfl, Do.load tf_flat34 rfl (Cell.own 1 0 rfl rfl rfl)⟩⟩, .inr ⟨_, rfl, rfl, .inl ⟨rfl, Do.lenL Tryz.underlying34 rfl⟩⟩, .inr ⟨_, rfl, rfl, .inl ⟨rfl, Do.move rfl⟩⟩, .inr ⟨_, rfl, rfl, .inl ⟨rfl, Do.nilCheck rfl⟩⟩, .inr ⟨_, rfl, rfl, .inl ⟨rfl, Do.fieldAddrB tf_fo123_1 rfl rfl⟩⟩, .inr ⟨_, rfl, rfl, .inl ⟨rfl, Do.load tf_flat3 rfl (Cell.own 1 0 rfl rfl rfl)⟩⟩, .inr ⟨_, rfl, rfl, .inl ⟨rfl, Do.sub (z := ((y.l.length - off : Nat) : Int)) rfl rfl (by rw [w64 (by omega) (by omega)]; omega)⟩⟩, .inr ⟨_, rfl, rfl, .inl ⟨rfl, Do.assign rfl⟩⟩, trivial⟩, by kernel_rfl, ?_⟩
  refine At.mono (E' := [(2, .int .i64 ((y.l.length - off : Nat) : Int))]) ⟨rfl, trivial⟩ ?_
  exact At.ret Tryz.func225 rfl rfl (⟨rfl, rfl⟩)
set_option maxHeartbeats 400000 in
theorem bbytes_ok {w0 : World} {base : Nat} {H : List Seg} {b : Nat} {y : Sl tyB 5} {m e lr : Int} {br : Bool} {off : Nat} (hl : y.l.length ≤ 1000000000) (ho : off ≤ y.l.length) :
    SCalls Tryz.prog 228 [.pointer (some ⟨b, 2, none⟩)] w0 base (y.s :: [(b, .cells #[.int .i64 m, .bool br, .slice y.A y.l.length y.C, .int .i64 (off : Int), .int .i8 lr, .int .i64 e] 125 (0, 0))] :: H) (fun v H' => ∃ A' C', Own tyB 5 A' C' (subl y.l off y.l.length) y.s ∧ v = .slice A' (subl y.l off y.l.length).length C' ∧ H' = y.s :: [(b, .cells #[.int .i64 m, .bool br, .slice y.A y.l.length y.C, .int .i64 (off : Int), .int .i8 lr, .int .i64 e] 125 (0, 0))] :: H) := by
  refine SCalls.of_walk (n := 12) Tryz.func228 rfl rfl rfl fun cs => ?_
  refine At.seq ?_
  refine At.region ?_
  refine AtL.assign (.inl rfl) rfl rfl ?_
  refine AtL.done ?_
  refine At.seq ?_
  have hleo3 := Own.le_cap y.own
  obtain ⟨A1, eA1⟩ : ∃ A1 : Option Addr, A1 = (if y.C = off then y.A else Option.map (fun a => a.add (off * tyB.sz)) y.A) := ⟨_, rfl⟩
  obtain ⟨C2, eC2⟩ : ∃ C2 : Nat, C2 = y.C - off := ⟨_, rfl⟩
  have o3 : Own tyB 5 A1 C2 (subl y.l off y.l.length) y.s := by rw [eA1, eC2]; exact Own.cut y.own (by omega) (by omega) (by omega) (by omega)
  refine At.draw (es := []) (pv := [(0, .pointer (some ⟨b, 2, none⟩)), (1, .pointer (some ⟨b, 2, none⟩)), (2, .pointer (some ⟨b, 2, none⟩)), (3, .slice y.A y.l.length y.C), (4, .pointer (some ⟨b, 2, none⟩)), (5, .pointer (some ⟨b, 2, none⟩)), (6, .pointer (some ⟨b, 3, none⟩)), (7, .int .i64 (off : Int)), (8, .slice A1 (subl y.l off y.l.length).length C2), (9, .slice A1 (subl y.l off y.l.length).length C2)]) tf_mixed (by kernel_rfl) (by kernel_rfl) (by kernel_rfl) ?_
  refine ⟨⟨.inr ⟨_, rfl, rfl, .inl ⟨rfl, Do.move rfl⟩⟩, .inr ⟨_, rfl, rfl, .inl ⟨rfl, Do.nilCheck rfl⟩⟩, .inr ⟨_, rfl, rfl, .inl ⟨rfl, Do.fieldAddrB tf_fo123_0 rfl rfl⟩⟩, .inr ⟨_, rfl, rfl, .inl ⟨rfl, Do.load tf_flat34 rfl (Cell.own 1 0 rfl rfl rfl)⟩⟩, .inr ⟨_, rfl, rfl, .inl ⟨rfl, Do.move rfl⟩⟩, .inr ⟨_, rfl, rfl, .inl ⟨rfl, Do.nilCheck rfl⟩⟩, .inr ⟨_, rfl, rfl, .inl ⟨rfl, Do.fieldAddrB tf_fo123_1 rfl rfl⟩⟩, .inr ⟨_, rfl, rfl, .inl ⟨rfl, Do.load tf_flat3 rfl (Cell.own 1 0 rfl rfl rfl)⟩⟩, .inr ⟨_, rfl, rfl, .inl ⟨rfl, Do.sliceX_ (T := tyB) (l := y.l) off y.l.length y.C (evBound_some rfl rfl) rfl rfl (by intro h; cases h) (by omega) (by omega) (Nat.le_refl _) Tryz.underlying34 tf_sz5 rfl eA1 (subl_len (l := y.l) (i := off) (j := y.l.length) (by omega)) eC2⟩⟩, .inr ⟨_, rfl, rfl, .inl ⟨rfl, Do.assign rfl⟩⟩, trivial⟩, by kernel_rfl, ?_⟩
  refine At.mono (E' := [(2, .slice A1 (subl y.l off y.l.length).length C2)]) ⟨rfl, trivial⟩ ?_
  exact At.ret Tryz.func228 rfl rfl (⟨_, _, o3, rfl, rfl⟩)
set_option maxHeartbeats 400000 in
theorem breset_ok {w0 : World} {base : Nat} {H : List Seg} {b : Nat} {y : Sl tyB 5} {m e lr : Int} {br : Bool} {off : Nat} :
    SCalls Tryz.prog 220 [.pointer (some ⟨b, 2, none⟩)] w0 base (y.s :: [(b, .cells #[.int .i64 m, .bool br, .slice y.A y.l.length y.C, .int .i64 (off : Int), .int .i8 lr, .int .i64 e] 125 (0, 0))] :: H) (fun v H' => ∃ z : Sl tyB 5, z.l = [] ∧ z.C ≤ y.C ∧ v = .tuple #[] ∧ H' = z.s :: [(b, .cells #[.int .i64 m, .bool br, .slice z.A z.l.length z.C, .int .i64 0, .int .i8 0, .int .i64 e] 125 (0, 0))] :: H) := by
  refine SCalls.of_walk (n := 16) Tryz.func220 rfl rfl rfl fun cs => ?_
  refine At.seq ?_
  refine At.region ?_
  refine AtL.move (.inl rfl) rfl rfl ?_
  refine AtL.move (.inl rfl) rfl rfl ?_
  refine AtL.nilCheck (.inl rfl) rfl rfl ?_
  refine AtL.fieldAddrB tf_fo123_0 (.inl rfl) rfl rfl rfl ?_
  refine AtL.load tf_flat34 (.inl rfl) rfl rfl (Cell.own 1 0 rfl rfl rfl) ?_
  have hleo3 := Own.le_cap y.own
  obtain ⟨A1, eA1⟩ : ∃ A1 : Option Addr, A1 = (if y.C = 0 then y.A else Option.map (fun a => a.add (0 * tyB.sz)) y.A) := ⟨_, rfl⟩
  obtain ⟨C2, eC2⟩ : ∃ C2 : Nat, C2 = y.C - 0 := ⟨_, rfl⟩
  have o3 : Own tyB 5 A1 C2 (subl y.l 0 0) y.s := by rw [eA1, eC2]; exact Own.cut y.own (by omega) (by omega) (by omega) (by omega)
  refine AtL.ofIs (Do.sliceX_ (T := tyB) (l := y.l) 0 0 y.C rfl (evBound_some rfl rfl) rfl (by intro h; cases h) (by omega) (by omega) (Nat.le_refl _) Tryz.underlying34 tf_sz5 rfl eA1 (subl_len (l := y.l) (i := 0) (j := 0) (by omega)) eC2) (.inl rfl) rfl ?_
  have hlo3 : (subl y.l 0 0).length = 0 - 0 := subl_len (by omega)
  refine AtL.nilCheck (.inl rfl) rfl rfl ?_
  refine AtL.fieldAddrB tf_fo123_0 (.inl rfl) rfl rfl rfl ?_
  refine AtL.store (H' := y.s :: [(b, .cells #[.int .i64 m, .bool br, .slice A1 (subl y.l 0 0).length C2, .int .i64 (off : Int), .int .i8 lr, .int .i64 e] 125 (0, 0))] :: H) 1 0 tf_sz34 (.inl rfl) rfl rfl rfl rfl rfl rfl rfl rfl rfl ?_
  refine AtL.done ?_
  refine At.seq ?_
  refine At.region ?_
  refine AtL.move (.inl rfl) rfl rfl ?_
  refine AtL.nilCheck (.inl rfl) rfl rfl ?_
  refine AtL.fieldAddrB tf_fo123_1 (.inl rfl) rfl rfl rfl ?_
  refine AtL.store (H' := y.s :: [(b, .cells #[.int .i64 m, .bool br, .slice A1 (subl y.l 0 0).length C2, .int .i64 0, .int .i8 lr, .int .i64 e] 125 (0, 0))] :: H) 1 0 tf_sz3 (.inl rfl) rfl rfl rfl rfl rfl rfl rfl rfl rfl ?_
  refine AtL.done ?_
  refine At.region ?_
  refine AtL.move (.inl rfl) rfl rfl ?_
  refine AtL.nilCheck (.inl rfl) rfl rfl ?_
  refine AtL.fieldAddrB tf_fo123_2 (.inl rfl) rfl rfl rfl ?_
  refine AtL.store (H' := y.s :: [(b, .cells #[.int .i64 m, .bool br, .slice A1 (subl y.l 0 0).length C2, .int .i64 0, .int .i8 0, .int .i64 e] 125 (0, 0))] :: H) 1 0 tf_sz121 (.inl rfl) rfl rfl rfl rfl rfl rfl rfl rfl rfl ?_
  refine AtL.done ?_
  exact At.end_ Tryz.func220 rfl rfl (⟨⟨A1, C2, subl y.l 0 0, y.s, o3⟩, by simp [subl], by dsimp only; omega, rfl, rfl⟩)
set_option maxHeartbeats 400000 in
theorem btry_ok {w0 : World} {base : Nat} {H : List Seg} {b : Nat} {y : Sl tyB 5} {m e lr : Int} {br : Bool} {off : Nat} (n : Nat) (hl : y.l.length ≤ 1000000000) (hn : n ≤ 1000000000) :
    SCalls Tryz.prog 221 [.pointer (some ⟨b, 2, none⟩), .int .i64 (n : Int)] w0 base (y.s :: [(b, .cells #[.int .i64 m, .bool br, .slice y.A y.l.length y.C, .int .i64 (off : Int), .int .i8 lr, .int .i64 e] 125 (0, 0))] :: H) (fun v H' => ∃ (z : Sl tyB 5) (ok : Bool) (k : Nat), (ok = true → k = y.l.length ∧ z.l.take y.l.length = y.l ∧ z.l.length = y.l.length + n) ∧ (ok = false → z.l = y.l ∧ z.C < y.l.length + n) ∧ v = .tuple #[int (k : Int), .bool ok] ∧ H' = z.s :: [(b, .cells #[.int .i64 m, .bool br, .slice z.A z.l.length z.C, .int .i64 (off : Int), .int .i8 lr, .int .i64 e] 125 (0, 0))] :: H) := by
  have hcap := Own.cap_le y.own
  have hcap2 := Own.le_cap y.own
  refine SCalls.of_walk (n := 33) Tryz.func221 rfl rfl rfl fun cs => ?_
  refine At.seq ?_
  refine At.region ?_
  refine AtL.assign (.inl rfl) rfl rfl ?_
  refine AtL.assign (.inl rfl) rfl rfl ?_
  refine AtL.done ?_
  refine At.seq ?_
  refine At.seq ?_
  refine At.region ?_
  refine AtL.move (.inl rfl) rfl rfl ?_
  refine AtL.nilCheck (.inl rfl) rfl rfl ?_
  refine AtL.fieldAddrB tf_fo123_0 (.inl rfl) rfl rfl rfl ?_
  refine AtL.load tf_flat34 (.inl rfl) rfl rfl (Cell.own 1 0 rfl rfl rfl) ?_
  refine AtL.lenL Tryz.underlying34 (.inl rfl) rfl rfl ?_
  refine AtL.assign (.inl rfl) rfl rfl ?_
  refine AtL.done ?_
  refine At.seq ?_
  refine At.region ?_
  refine AtL.move (.inl rfl) rfl rfl ?_
  refine AtL.move (.inl rfl) rfl rfl ?_
  refine AtL.nilCheck (.inl rfl) rfl rfl ?_
  refine AtL.fieldAddrB tf_fo123_0 (.inl rfl) rfl rfl rfl ?_
  refine AtL.load tf_flat34 (.inl rfl) rfl rfl (Cell.own 1 0 rfl rfl rfl) ?_
  refine AtL.capL Tryz.underlying34 (.inl rfl) rfl rfl ?_
  refine AtL.move (.inl rfl) rfl rfl ?_
  refine AtL.sub (z := (y.C : Int) - (y.l.length : Int)) (.inl rfl) rfl rfl rfl (w64 (by omega) (by omega)) ?_
  refine AtL.leq (.inl rfl) rfl rfl rfl ?_
  refine AtL.done ?_
  refine At.cond rfl ?_ ?_
  · intro hc1
    have hc1 : (n : Int) ≤ ((y.C : Int) - (y.l.length : Int)) := of_decide_eq_true hc1
    refine At.seq ?_
    refine At.region ?_
    refine AtL.move (.inl rfl) rfl rfl ?_
    refine AtL.move (.inl rfl) rfl rfl ?_
    refine AtL.nilCheck (.inl rfl) rfl rfl ?_
    refine AtL.fieldAddrB tf_fo123_0 (.inl rfl) rfl rfl rfl ?_
    refine AtL.load tf_flat34 (.inl rfl) rfl rfl (Cell.own 1 0 rfl rfl rfl) ?_
    refine AtL.move (.inl rfl) rfl rfl ?_
    refine AtL.move (.inl rfl) rfl rfl ?_
    refine AtL.add (z := (y.l.length : Int) + (n : Int)) (.inl rfl) rfl rfl rfl (w64 (by omega) (by omega)) ?_
    obtain ⟨r1, hr2, o3⟩ := Own.grow y.own (j := y.l.length + n) (by omega) (by omega)
    obtain ⟨A4, eA4⟩ : ∃ A4 : Option Addr, A4 = (if y.C = 0 then y.A else Option.map (fun a => a.add (0 * tyB.sz)) y.A) := ⟨_, rfl⟩
    rw [← eA4] at o3
    refine AtL.ofIs (Do.sliceX_ (T := tyB) (l := y.l) (n' := (y.l ++ r1).length) (C' := y.C) 0 (y.l.length + n) y.C rfl (evBound_some rfl (by simp)) rfl (by intro h; cases h) (Nat.zero_le _) (by omega) (Nat.le_refl _) Tryz.underlying34 tf_sz5 rfl eA4 (by rw [List.length_append, hr2]; omega) (by omega)) (.inl rfl) rfl ?_
    refine AtL.nilCheck (.inl rfl) rfl rfl ?_
    refine AtL.fieldAddrB tf_fo123_0 (.inl rfl) rfl rfl rfl ?_
    refine AtL.store (H' := y.s :: [(b, .cells #[.int .i64 m, .bool br, .slice A4 (y.l ++ r1).length y.C, .int .i64 (off : Int), .int .i8 lr, .int .i64 e] 125 (0, 0))] :: H) 1 0 tf_sz34 (.inl rfl) rfl rfl rfl rfl rfl rfl rfl rfl rfl ?_
    refine AtL.done ?_
    refine At.seq ?_
    refine At.region ?_
    refine AtL.move (.inl rfl) rfl rfl ?_
    refine AtL.assign (.inl rfl) rfl rfl ?_
    refine AtL.assign (.inl rfl) rfl rfl ?_
    refine AtL.done ?_
    exact At.ret Tryz.func221 rfl rfl (⟨⟨A4, y.C, y.l ++ r1, y.s, o3⟩, true, y.l.length, fun _ => ⟨rfl, by simp, by simp only [List.length_append, hr2]; omega⟩, (fun h => by cases h), rfl, rfl⟩)
  · intro hc1
    have hc1 : ¬ ((n : Int) ≤ ((y.C : Int) - (y.l.length : Int))) := of_decide_eq_false hc1
    refine At.skip ?_
    refine At.seq ?_
    refine At.region ?_
    refine AtL.assign (.inl rfl) rfl rfl ?_
    refine AtL.assign (.inl rfl) rfl rfl ?_
    refine AtL.done ?_
    exact At.ret Tryz.func221 rfl rfl (⟨y, false, 0, (fun h => by cases h), fun _ => ⟨rfl, by have := Own.le_cap y.own; omega⟩, rfl, rfl⟩)
theorem grow_take (l z : List UInt8) (h : l.length ≤ z.length) : subl (l.take z.length ++ z.drop l.length) 0 (min l.length z.length) = l := by
  rw [subl_to, List.take_of_length_le h, Nat.min_eq_left h, List.take_left]
set_option maxHeartbeats 400000 in
theorem grow1_ret {w0 : World} {base : Nat} {H : List Seg}  :
    DCalls Tryz.prog 229 [] w0 base (H) .returning (fun m' H' => m' = .returning ∧ H' = H) := by
  refine DCalls.of_walk (n := 3) Tryz.func229 rfl rfl rfl fun fr cs => ?_
  refine At.seq ?_
  refine At.region ?_
  refine AtL.recoverNone rfl ?_
  refine AtL.neNilIface Tryz.underlying20 (.inl rfl) rfl rfl ?_
  refine AtL.done ?_
  refine At.condF rfl ?_
  refine At.skip ?_
  refine At.endU rfl ?_
  exact Un.leftD (vs := []) Tryz.func229 rfl trivial (⟨rfl, rfl⟩)
set_option maxHeartbeats 400000 in
theorem growsl_ok {w0 : World} {base : Nat} {H : List Seg} {A : Option Addr} {C : Nat} {l : List UInt8} (h : Rd tyB w0 base H A C l) (n : Nat) (h0 : 1 ≤ n) (hl : l.length ≤ 1000000000) (hn : n ≤ 1000000000) (hC : C ≤ 2000000000) :
    SCalls Tryz.prog 227 [.slice A l.length C, .int .i64 (n : Int)] w0 base (H) (fun v H' => ∃ z : Sl tyB 5, z.l = l ∧ l.length + n ≤ z.C ∧ v = .slice z.A z.l.length z.C ∧ H' = z.s :: H) := by
  refine SCalls.of_walk (n := 28) Tryz.func227 rfl rfl rfl fun cs => ?_
  refine At.seq ?_
  refine At.region ?_
  refine AtL.assign (.inl rfl) rfl rfl ?_
  refine AtL.done ?_
  refine At.seq ?_
  refine At.region ?_
  refine AtL.defer rfl (.inl rfl) rfl rfl rfl ?_
  refine AtL.done ?_
  refine At.seq ?_
  refine At.region ?_
  refine AtL.move (.inl rfl) rfl rfl ?_
  refine AtL.lenL Tryz.underlying34 (.inl rfl) rfl rfl ?_
  refine AtL.move (.inl rfl) rfl rfl ?_
  refine AtL.add (z := (l.length : Int) + (n : Int)) (.inl rfl) rfl rfl rfl (w64 (by omega) (by omega)) ?_
  refine AtL.assign (.inl rfl) rfl rfl ?_
  refine AtL.done ?_
  refine At.seq ?_
  refine At.seq ?_
  refine At.region ?_
  refine AtL.move (.inl rfl) rfl rfl ?_
  refine AtL.move (.inl rfl) rfl rfl ?_
  refine AtL.capL Tryz.underlying34 (.inl rfl) rfl rfl ?_
  refine AtL.mul (z := 2 * (C : Int)) (.inl rfl) rfl rfl rfl (w64 (by omega) (by omega)) ?_
  refine AtL.lss (.inl rfl) rfl rfl rfl ?_
  refine AtL.done ?_
  refine At.cond rfl ?_ ?_
  · intro hc1
    have hc1 : ((l.length : Int) + (n : Int)) < (2 * (C : Int)) := of_decide_eq_true hc1
    refine At.region ?_
    refine AtL.move (.inl rfl) rfl rfl ?_
    refine AtL.capL Tryz.underlying34 (.inl rfl) rfl rfl ?_
    refine AtL.mul (z := 2 * (C : Int)) (.inl rfl) rfl rfl rfl (w64 (by omega) (by omega)) ?_
    refine AtL.assign (.inl rfl) rfl rfl ?_
    refine AtL.done ?_
    refine At.seq ?_
    refine At.region ?_
    refine AtL.move (.inl rfl) rfl rfl ?_
    refine AtL.nil ?_
    refine AtL.appendZ (l := []) (m := 2 * C) 0 tf_el34 Tryz.underlying3 rfl (Own.nil tyB 5) (by decide) (by omega) (by first | omega | (simp only [List.length_append, List.length_cons, List.length_nil]; omega) | (simp; done) | (simp; omega)) (by first | omega | (simp only [List.length_append, List.length_cons, List.length_nil]; omega) | (simp; done) | (simp; omega)) (.inl rfl) rfl rfl rfl ?_
    intro A1 C2 s3 o4
    refine AtL.assign (.inl rfl) rfl rfl ?_
    refine AtL.done ?_
    have hb3 : ([] ++ List.replicate (2 * C) (0 : UInt8)).length = 2 * C := by simp
    refine At.seq ?_
    refine At.region ?_
    refine AtL.move (.inl rfl) rfl rfl ?_
    refine AtL.move (.inl rfl) rfl rfl ?_
    refine AtL.copy 0 Tryz.underlying34 tf_sz5 rfl o4 (Rd.skip 1 h) (.inl rfl) rfl rfl rfl ?_
    intro s5 o6
    refine AtL.relen (m := (l.take ([] ++ List.replicate (2 * C) (0 : UInt8)).length ++ ([] ++ List.replicate (2 * C) (0 : UInt8)).drop l.length).length) 6 rfl (copy_len _ _) ?_
    refine AtL.assign (.inl rfl) rfl rfl ?_
    refine AtL.done ?_
    have hb2 : (l.take ([] ++ List.replicate (2 * C) (0 : UInt8)).length ++ ([] ++ List.replicate (2 * C) (0 : UInt8)).drop l.length).length = 2 * C := by rw [copy_len]; simp
    refine At.seq ?_
    refine At.region ?_
    refine AtL.move (.inl rfl) rfl rfl ?_
    refine AtL.move (.inl rfl) rfl rfl ?_
    have hleo9 := Own.le_cap o6
    obtain ⟨A7, eA7⟩ : ∃ A7 : Option Addr, A7 = (if C2 = 0 then A1 else Option.map (fun a => a.add (0 * tyB.sz)) A1) := ⟨_, rfl⟩
    obtain ⟨C8, eC8⟩ : ∃ C8 : Nat, C8 = C2 - 0 := ⟨_, rfl⟩
    have o9 : Own tyB 5 A7 C8 (subl (l.take ([] ++ List.replicate (2 * C) (0 : UInt8)).length ++ ([] ++ List.replicate (2 * C) (0 : UInt8)).drop l.length) 0 (min l.length ([] ++ List.replicate (2 * C) (0 : UInt8)).length : Nat)) s5 := by rw [eA7, eC8]; exact Own.cut o6 (by omega) (by omega) (by omega) (by omega)
    refine AtL.ofIs (Do.sliceX_ (T := tyB) (l := l.take ([] ++ List.replicate (2 * C) (0 : UInt8)).length ++ ([] ++ List.replicate (2 * C) (0 : UInt8)).drop l.length) 0 (min l.length ([] ++ List.replicate (2 * C) (0 : UInt8)).length : Nat) C2 rfl (evBound_some rfl rfl) rfl (by intro h; cases h) (by omega) (by omega) (Nat.le_refl _) Tryz.underlying34 tf_sz5 rfl eA7 (subl_len (l := l.take ([] ++ List.replicate (2 * C) (0 : UInt8)).length ++ ([] ++ List.replicate (2 * C) (0 : UInt8)).drop l.length) (i := 0) (j := (min l.length ([] ++ List.replicate (2 * C) (0 : UInt8)).length : Nat)) (by omega)) eC8) (.inl rfl) rfl ?_
    have hlo9 : (subl (l.take ([] ++ List.replicate (2 * C) (0 : UInt8)).length ++ ([] ++ List.replicate (2 * C) (0 : UInt8)).drop l.length) 0 (min l.length ([] ++ List.replicate (2 * C) (0 : UInt8)).length : Nat)).length = (min l.length ([] ++ List.replicate (2 * C) (0 : UInt8)).length : Nat) - 0 := subl_len (by omega)
    refine AtL.assign (.inl rfl) rfl rfl ?_
    refine AtL.done ?_
    refine At.retU rfl ?_
    refine Un.defer tf_body229 rfl rfl grow1_ret ?_
    rintro _ _ ⟨rfl, rfl⟩
    exact Un.leftP (vs := [.slice A7 (subl (l.take ([] ++ List.replicate (2 * C) (0 : UInt8)).length ++ ([] ++ List.replicate (2 * C) (0 : UInt8)).drop l.length) 0 (min l.length ([] ++ List.replicate (2 * C) (0 : UInt8)).length : Nat)).length C8]) (H2 := s5 :: H) [0] 1 rfl rfl Tryz.func227 rfl ⟨rfl, trivial⟩ (⟨⟨A7, C8, subl (l.take ([] ++ List.replicate (2 * C) (0 : UInt8)).length ++ ([] ++ List.replicate (2 * C) (0 : UInt8)).drop l.length) 0 (min l.length ([] ++ List.replicate (2 * C) (0 : UInt8)).length : Nat), s5, o9⟩, grow_take l _ (by rw [hb3]; omega), by dsimp only; omega, rfl, rfl⟩)
  · intro hc1
    have hc1 : ¬ (((l.length : Int) + (n : Int)) < (2 * (C : Int))) := of_decide_eq_false hc1
    refine At.skip ?_
    refine At.seq ?_
    refine At.region ?_
    refine AtL.move (.inl rfl) rfl rfl ?_
    refine AtL.nil ?_
    refine AtL.appendZ (l := []) (m := l.length + n) 0 tf_el34 Tryz.underlying3 rfl (Own.nil tyB 5) (by decide) (by omega) (by first | omega | (simp only [List.length_append, List.length_cons, List.length_nil]; omega) | (simp; done) | (simp; omega)) (by first | omega | (simp only [List.length_append, List.length_cons, List.length_nil]; omega) | (simp; done) | (simp; omega)) (.inl rfl) rfl rfl rfl ?_
    intro A10 C11 s12 o13
    refine AtL.assign (.inl rfl) rfl rfl ?_
    refine AtL.done ?_
    have hb3 : ([] ++ List.replicate (l.length + n) (0 : UInt8)).length = l.length + n := by simp
    refine At.seq ?_
    refine At.region ?_
    refine AtL.move (.inl rfl) rfl rfl ?_
    refine AtL.move (.inl rfl) rfl rfl ?_
    refine AtL.copy 0 Tryz.underlying34 tf_sz5 rfl o13 (Rd.skip 1 h) (.inl rfl) rfl rfl rfl ?_
    intro s14 o15
    refine AtL.relen (m := (l.take ([] ++ List.replicate (l.length + n) (0 : UInt8)).length ++ ([] ++ List.replicate (l.length + n) (0 : UInt8)).drop l.length).length) 6 rfl (copy_len _ _) ?_
    refine AtL.assign (.inl rfl) rfl rfl ?_
    refine AtL.done ?_
    have hb2 : (l.take ([] ++ List.replicate (l.length + n) (0 : UInt8)).length ++ ([] ++ List.replicate (l.length + n) (0 : UInt8)).drop l.length).length = l.length + n := by rw [copy_len]; simp
    refine At.seq ?_
    refine At.region ?_
    refine AtL.move (.inl rfl) rfl rfl ?_
    refine AtL.move (.inl rfl) rfl rfl ?_
    have hleo18 := Own.le_cap o15
    obtain ⟨A16, eA16⟩ : ∃ A16 : Option Addr, A16 = (if C11 = 0 then A10 else Option.map (fun a => a.add (0 * tyB.sz)) A10) := ⟨_, rfl⟩
    obtain ⟨C17, eC17⟩ : ∃ C17 : Nat, C17 = C11 - 0 := ⟨_, rfl⟩
    have o18 : Own tyB 5 A16 C17 (subl (l.take ([] ++ List.replicate (l.length + n) (0 : UInt8)).length ++ ([] ++ List.replicate (l.length + n) (0 : UInt8)).drop l.length) 0 (min l.length ([] ++ List.replicate (l.length + n) (0 : UInt8)).length : Nat)) s14 := by rw [eA16, eC17]; exact Own.cut o15 (by omega) (by omega) (by omega) (by omega)
    refine AtL.ofIs (Do.sliceX_ (T := tyB) (l := l.take ([] ++ List.replicate (l.length + n) (0 : UInt8)).length ++ ([] ++ List.replicate (l.length + n) (0 : UInt8)).drop l.length) 0 (min l.length ([] ++ List.replicate (l.length + n) (0 : UInt8)).length : Nat) C11 rfl (evBound_some rfl rfl) rfl (by intro h; cases h) (by omega) (by omega) (Nat.le_refl _) Tryz.underlying34 tf_sz5 rfl eA16 (subl_len (l := l.take ([] ++ List.replicate (l.length + n) (0 : UInt8)).length ++ ([] ++ List.replicate (l.length + n) (0 : UInt8)).drop l.length) (i := 0) (j := (min l.length ([] ++ List.replicate (l.length + n) (0 : UInt8)).length : Nat)) (by omega)) eC17) (.inl rfl) rfl ?_
    have hlo18 : (subl (l.take ([] ++ List.replicate (l.length + n) (0 : UInt8)).length ++ ([] ++ List.replicate (l.length + n) (0 : UInt8)).drop l.length) 0 (min l.length ([] ++ List.replicate (l.length + n) (0 : UInt8)).length : Nat)).length = (min l.length ([] ++ List.replicate (l.length + n) (0 : UInt8)).length : Nat) - 0 := subl_len (by omega)
    refine AtL.assign (.inl rfl) rfl rfl ?_
    refine AtL.done ?_
    refine At.retU rfl ?_
    refine Un.defer tf_body229 rfl rfl grow1_ret ?_
    rintro _ _ ⟨rfl, rfl⟩
    exact Un.leftP (vs := [.slice A16 (subl (l.take ([] ++ List.replicate (l.length + n) (0 : UInt8)).length ++ ([] ++ List.replicate (l.length + n) (0 : UInt8)).drop l.length) 0 (min l.length ([] ++ List.replicate (l.length + n) (0 : UInt8)).length : Nat)).length C17]) (H2 := s14 :: H) [0] 1 rfl rfl Tryz.func227 rfl ⟨rfl, trivial⟩ (⟨⟨A16, C17, subl (l.take ([] ++ List.replicate (l.length + n) (0 : UInt8)).length ++ ([] ++ List.replicate (l.length + n) (0 : UInt8)).drop l.length) 0 (min l.length ([] ++ List.replicate (l.length + n) (0 : UInt8)).length : Nat), s14, o18⟩, grow_take l _ (by rw [hb3]; omega), by dsimp only; omega, rfl, rfl⟩)
set_option maxHeartbeats 400000 in
theorem bgrow_ok {w0 : World} {base : Nat} {H : List Seg} {b : Nat} {y : Sl tyB 5} {m e : Int} {br : Bool} {off : Nat} (n : Nat) (hl : y.l.length + n ≤ 500000000) (ho : off ≤ y.l.length) :
    SCalls Tryz.prog 222 [.pointer (some ⟨b, 2, none⟩), .int .i64 (n : Int)] w0 base (y.s :: [(b, .cells #[.int .i64 m, .bool br, .slice y.A y.l.length y.C, .int .i64 (off : Int), .int .i8 0, .int .i64 e] 125 (0, 0))] :: H) (fun v H' => ∃ (z : Sl tyB 5) (o' m' : Nat), o' ≤ m' ∧ m' ≤ y.l.length ∧ z.l.length = m' + n ∧ (z.l.take m').drop o' = y.l.drop off ∧ v = int (m' : Int) ∧ H' = z.s :: [(b, .cells #[.int .i64 m, .bool br, .slice z.A z.l.length z.C, .int .i64 (o' : Int), .int .i8 0, .int .i64 e] 125 (0, 0))] :: H) := by
  have hcap := Own.cap_le y.own
  have hcap2 := Own.le_cap y.own
  refine SCalls.of_walk (n := 110) Tryz.func222 rfl rfl rfl fun cs => ?_
  refine At.seq ?_
  refine At.region ?_
  refine AtL.assign (.inl rfl) rfl rfl ?_
  refine AtL.done ?_
  refine At.seq ?_
  refine At.region ?_
  refine AtL.move (.inl rfl) rfl rfl ?_
  refine AtL.call tf_body225 (.inl rfl) rfl rfl (blen_ok (y := y) (off := off) (by omega) (by omega)) ?_
  rintro _ _ ⟨rfl, rfl⟩
  refine AtL.assign (.inl rfl) rfl rfl ?_
  refine AtL.done ?_
  refine At.seq ?_
  refine At.seq ?_
  refine At.region ?_
  refine AtL.move (.inl rfl) rfl rfl ?_
  refine AtL.eqi (.inl rfl) rfl rfl rfl ?_
  refine AtL.move (.inl rfl) rfl rfl ?_
  refine AtL.join 6 (E' := [(19, .bool (decide ((((y.l.length - off : Nat) : Int) = 0) ∧ (¬ ((off : Int) = 0))))), (0, .pointer (some ⟨b, 2, none⟩)), (1, .int .i64 (n : Int)), (5, .int .i64 ((y.l.length - off : Nat) : Int))]) (H' := y.s :: [(b, .cells #[.int .i64 m, .bool br, .slice y.A y.l.length y.C, .int .i64 (off : Int), .int .i8 0, .int .i64 e] 125 (0, 0))] :: H) (fun J => ?_) ?_
  · refine AtL.split (t := 13) rfl ?_ ?_
    · intro hs13
      have hs13 : ((y.l.length - off : Nat) : Int) = 0 := of_decide_eq_true hs13
      refine AtL.move (.inr ⟨_, _, _, rfl, rfl, rfl, rfl⟩) rfl rfl ?_
      refine AtL.nilCheck (.inr ⟨_, _, _, rfl, rfl, rfl, rfl⟩) rfl rfl ?_
      refine AtL.fieldAddrB tf_fo123_1 (.inr ⟨_, _, _, rfl, rfl, rfl, rfl⟩) rfl rfl rfl ?_
      refine AtL.load tf_flat3 (.inr ⟨_, _, _, rfl, rfl, rfl, rfl⟩) rfl rfl (Cell.own 1 0 rfl rfl rfl) ?_
      refine AtL.nei (.inr ⟨_, _, _, rfl, rfl, rfl, rfl⟩) rfl rfl rfl ?_
      refine AtL.pickT (.inl rfl) rfl rfl rfl ?_
      exact J _ (by exact ⟨(boolIs (by clear J; first | (simp [hs13]; done) | (simp_all; done) | grind)), rfl, rfl, rfl, trivial⟩)
    · intro hs13
      have hs13 : ¬ (((y.l.length - off : Nat) : Int) = 0) := of_decide_eq_false hs13
      refine AtL.skipped rfl rfl rfl rfl rfl rfl ?_
      refine AtL.skipped rfl rfl rfl rfl rfl rfl ?_
      refine AtL.skipped rfl rfl rfl rfl rfl rfl ?_
      refine AtL.skipped rfl rfl rfl rfl rfl rfl ?_
      refine AtL.skipped rfl rfl rfl rfl rfl rfl ?_
      refine AtL.pickF (.inl rfl) rfl rfl rfl ?_
      exact J _ (by exact ⟨(boolIs (by clear J; first | (simp [hs13]; done) | (simp_all; done) | grind)), rfl, rfl, rfl, trivial⟩)
  · skip
    refine AtL.done ?_
    refine At.cond rfl ?_ ?_
    · intro hc1
      have hc1 : (((y.l.length - off : Nat) : Int) = 0) ∧ (¬ ((off : Int) = 0)) := of_decide_eq_true hc1
      refine At.region ?_
      refine AtL.move (.inl rfl) rfl rfl ?_
      refine AtL.call tf_body220 (.inl rfl) rfl rfl (breset_ok (y := y)) ?_
      rintro _ _ ⟨⟨A1, C2, l3, s4, o5⟩, h6, h7, rfl, rfl⟩
      obtain rfl : ([] : List UInt8) = l3 := h6.symm
      have hrc := h7
      dsimp only at hrc
      refine AtL.done ?_
      refine At.seq ?_
      refine At.seq ?_
      refine At.region ?_
      refine AtL.move (.inl rfl) rfl rfl ?_
      refine AtL.move (.inl rfl) rfl rfl ?_
      refine AtL.call tf_body221 (.inl rfl) rfl rfl (btry_ok (y := ⟨A1, C2, ([] : List UInt8), s4, o5⟩) n (by first | omega | (simp only [List.length_append, List.length_cons, List.length_nil, subl]; omega) | (simp [subl]; done) | (simp [subl]; omega)) (by omega)) ?_
      rintro _ _ ⟨⟨A8, C9, l10, s11, o12⟩, ok13, k16, h14, h15, rfl, rfl⟩
      have hok1 := h14
      have hok2 := h15
      dsimp only at hok1 hok2
      refine AtL.move (.inl rfl) rfl rfl ?_
      refine AtL.extract (.inl rfl) rfl rfl rfl ?_
      refine AtL.extract (.inl rfl) rfl rfl rfl ?_
      refine AtL.assign (.inl rfl) rfl rfl ?_
      refine AtL.assign (.inl rfl) rfl rfl ?_
      refine AtL.done ?_
      refine At.seq ?_
      refine At.region ?_
      refine AtL.move (.inl rfl) rfl rfl ?_
      refine AtL.done ?_
      refine At.cond rfl ?_ ?_
      · intro hc2
        have hc2 : ok13 = true := hc2
        obtain ⟨hzk, hzt, hzn⟩ := hok1 hc2
        refine At.seq ?_
        refine At.region ?_
        refine AtL.move (.inl rfl) rfl rfl ?_
        refine AtL.assign (.inl rfl) rfl rfl ?_
        refine AtL.done ?_
        have hd : y.l.drop off = [] := List.drop_eq_nil_of_le (by omega)
        try dsimp only [List.length_nil, List.take_zero] at hzt hzn
        exact At.ret Tryz.func222 rfl rfl (⟨⟨A8, C9, l10, s11, o12⟩, 0, 0, by omega, by omega, by dsimp only; omega, by rw [hd]; simp, congrArg int (by rw [hzk]; rfl), rfl⟩)
      · intro hc2
        have hc2 : ok13 = false := hc2
        obtain ⟨hzl, hzC⟩ := hok2 hc2
        try simp only [List.length_nil] at hzC
        subst hzl
        refine At.skip ?_
        refine At.seq ?_
        refine At.seq ?_
        refine At.region ?_
        refine AtL.move (.inl rfl) rfl rfl ?_
        refine AtL.nilCheck (.inl rfl) rfl rfl ?_
        refine AtL.fieldAddrB tf_fo123_0 (.inl rfl) rfl rfl rfl ?_
        refine AtL.load tf_flat34 (.inl rfl) rfl rfl (Cell.own 1 0 rfl rfl rfl) ?_
        refine AtL.eqSliceNil Tryz.underlying34 (.inl rfl) rfl rfl rfl ?_
        refine AtL.move (.inl rfl) rfl rfl ?_
        refine AtL.join 3 (E' := [(38, .bool (decide ((A8.isNone = true) ∧ ((n : Int) ≤ 64)))), (0, .pointer (some ⟨b, 2, none⟩)), (1, .int .i64 (n : Int)), (5, .int .i64 ((y.l.length - off : Nat) : Int))]) (H' := s11 :: [(b, .cells #[.int .i64 m, .bool br, .slice A8 ([] : List UInt8).length C9, .int .i64 0, .int .i8 0, .int .i64 e] 125 (0, 0))] :: H) (fun J => ?_) ?_
        · refine AtL.split (t := 35) rfl ?_ ?_
          · intro hs35
            have hs35 : A8.isNone = true := hs35
            refine AtL.move (.inr ⟨_, _, _, rfl, rfl, rfl, rfl⟩) rfl rfl ?_
            refine AtL.leq (.inr ⟨_, _, _, rfl, rfl, rfl, rfl⟩) rfl rfl rfl ?_
            refine AtL.pickT (.inl rfl) rfl rfl rfl ?_
            exact J _ (by exact ⟨(boolIs (by clear J; first | (simp [hs35]; done) | (simp_all; done) | grind)), rfl, rfl, rfl, trivial⟩)
          · intro hs35
            have hs35 : A8.isNone = false := hs35
            refine AtL.skipped rfl rfl rfl rfl rfl rfl ?_
            refine AtL.skipped rfl rfl rfl rfl rfl rfl ?_
            refine AtL.pickF (.inl rfl) rfl rfl rfl ?_
            exact J _ (by exact ⟨(boolIs (by clear J; first | (simp [hs35]; done) | (simp_all; done) | grind)), rfl, rfl, rfl, trivial⟩)
        · skip
          refine AtL.done ?_
          refine At.cond rfl ?_ ?_
          · intro hc3
            have hc3 : (A8.isNone = true) ∧ ((n : Int) ≤ 64) := of_decide_eq_true hc3
            refine At.seq ?_
            refine At.region ?_
            refine AtL.move (.inl rfl) rfl rfl ?_
            refine AtL.move (.inl rfl) rfl rfl ?_
            refine AtL.makeSlice (n := n) (c := 64) tf_el34 (by decide) (.inl rfl) rfl rfl rfl (by omega) (by omega) ?_
            intro A17 s18 o19 q20
            refine AtL.nilCheck (.inl rfl) rfl rfl ?_
            refine AtL.fieldAddrB tf_fo123_0 (.inl rfl) rfl rfl rfl ?_
            refine AtL.store (H' := s18 :: s11 :: [(b, .cells #[.int .i64 m, .bool br, .slice A17 (List.replicate n (0 : UInt8)).length 64, .int .i64 0, .int .i8 0, .int .i64 e] 125 (0, 0))] :: H) 2 0 tf_sz34 (.inl rfl) rfl rfl rfl rfl rfl rfl rfl rfl rfl ?_
            refine AtL.done ?_
            refine At.seq ?_
            refine At.region ?_
            refine AtL.assign (.inl rfl) rfl rfl ?_
            refine AtL.done ?_
            refine At.pick (H' := s18 :: [(b, .cells #[.int .i64 m, .bool br, .slice A17 (List.replicate n (0 : UInt8)).length 64, .int .i64 0, .int .i8 0, .int .i64 e] 125 (0, 0))] :: H) [0, 2] 3 rfl rfl ?_
            have hd : y.l.drop off = [] := List.drop_eq_nil_of_le (by omega)
            have hn0 := hd
            exact At.ret Tryz.func222 rfl rfl (⟨⟨A17, 64, List.replicate n (0 : UInt8), s18, o19⟩, 0, 0, by omega, by omega, by simp, by rw [hn0]; simp, congrArg int (rfl), rfl⟩)
          · intro hc3
            have hc3 : ¬ ((A8.isNone = true) ∧ ((n : Int) ≤ 64)) := of_decide_eq_false hc3
            refine At.skip ?_
            refine At.seq ?_
            refine At.region ?_
            refine AtL.move (.inl rfl) rfl rfl ?_
            refine AtL.nilCheck (.inl rfl) rfl rfl ?_
            refine AtL.fieldAddrB tf_fo123_0 (.inl rfl) rfl rfl rfl ?_
            refine AtL.load tf_flat34 (.inl rfl) rfl rfl (Cell.own 1 0 rfl rfl rfl) ?_
            refine AtL.capL Tryz.underlying34 (.inl rfl) rfl rfl ?_
            refine AtL.assign (.inl rfl) rfl rfl ?_
            refine AtL.done ?_
            refine At.seq ?_
            refine At.seq ?_
            refine At.region ?_
            refine AtL.move (.inl rfl) rfl rfl ?_
            refine AtL.move (.inl rfl) rfl rfl ?_
            refine AtL.quo (z := (C9 : Int) / 2) (.inl rfl) rfl rfl rfl (by omega) (quo_eq (by omega) (by omega) (by omega)) ?_
            refine AtL.move (.inl rfl) rfl rfl ?_
            refine AtL.sub (z := ((C9 : Int) / 2) - ((y.l.length - off : Nat) : Int)) (.inl rfl) rfl rfl rfl (w64 (by omega) (by omega)) ?_
            refine AtL.leq (.inl rfl) rfl rfl rfl ?_
            refine AtL.done ?_
            refine At.condIs false rfl (decide_eq_false (by omega)) ?_
            refine At.seq ?_
            refine At.region ?_
            refine AtL.move (.inl rfl) rfl rfl ?_
            refine AtL.move (.inl rfl) rfl rfl ?_
            refine AtL.sub (z := 9223372036854775807 - (C9 : Int)) (.inl rfl) rfl rfl rfl (w64 (by omega) (by omega)) ?_
            refine AtL.move (.inl rfl) rfl rfl ?_
            refine AtL.sub (z := (9223372036854775807 - (C9 : Int)) - (n : Int)) (.inl rfl) rfl rfl rfl (w64 (by omega) (by omega)) ?_
            refine AtL.gtr (.inl rfl) rfl rfl rfl ?_
            refine AtL.done ?_
            refine At.condIs false rfl (decide_eq_false (by omega)) ?_
            have hleo23 := Own.le_cap o12
            obtain ⟨A21, eA21⟩ : ∃ A21 : Option Addr, A21 = (if C9 = 0 then A8 else Option.map (fun a => a.add (0 * tyB.sz)) A8) := ⟨_, rfl⟩
            obtain ⟨C22, eC22⟩ : ∃ C22 : Nat, C22 = C9 - 0 := ⟨_, rfl⟩
            have o23 : Own tyB 5 A21 C22 (subl ([] : List UInt8) 0 ([] : List UInt8).length) s11 := by rw [eA21, eC22]; exact Own.cut o12 (by omega) (by omega) (by omega) (by omega)
            refine At.draw (es := [16, 19]) (pv := [(0, .pointer (some ⟨b, 2, none⟩)), (1, .pointer (some ⟨b, 2, none⟩)), (2, .pointer (some ⟨b, 2, none⟩)), (3, .pointer (some ⟨b, 2, none⟩)), (4, .slice A8 ([] : List UInt8).length C9), (5, .pointer (some ⟨b, 2, none⟩)), (6, .pointer (some ⟨b, 2, none⟩)), (7, .pointer (some ⟨b, 3, none⟩)), (8, .int .i64 0), (9, .slice A21 (subl ([] : List UInt8) 0 ([] : List UInt8).length).length C22), (10, .pointer (some ⟨b, 2, none⟩)), (11, .pointer (some ⟨b, 2, none⟩)), (12, .pointer (some ⟨b, 3, none⟩)), (13, .int .i64 0), (14, .int .i64 (n : Int)), (15, .int .i64 (0 + (n : Int)))]) tf_mixed (by kernel_rfl) (by kernel_rfl) (by kernel_rfl) ?_
            refine ⟨⟨.inr ⟨_, rfl, rfl, .inl ⟨rfl, Do.move rfl⟩⟩, .inr ⟨_, rfl, rfl, .inl ⟨rfl, Do.move rfl⟩⟩, .inr ⟨_, rfl, rfl, .inl ⟨rfl, Do.nilCheck rfl⟩⟩, .inr ⟨_, rfl, rfl, .inl ⟨rfl, Do.fieldAddrB tf_fo123_0 rfl rfl⟩⟩, .inr ⟨_, rfl, rfl, .inl ⟨rfl, Do.load tf_flat34 rfl (Cell.own 1 0 rfl rfl rfl)⟩⟩, .inr ⟨_, rfl, rfl, .inl ⟨rfl, Do.move rfl⟩⟩, .inr ⟨_, rfl, rfl, .inl ⟨rfl, Do.nilCheck rfl⟩⟩, .inr ⟨_, rfl, rfl, .inl ⟨rfl, Do.fieldAddrB tf_fo123_1 rfl rfl⟩⟩, .inr ⟨_, rfl, rfl, .inl ⟨rfl, Do.load tf_flat3 rfl (Cell.own 1 0 rfl rfl rfl)⟩⟩, .inr ⟨_, rfl, rfl, .inl ⟨rfl, Do.sliceX_ (T := tyB) (l := ([] : List UInt8)) 0 ([] : List UInt8).length C9 (evBound_some rfl rfl) rfl rfl (by intro h; cases h) (by omega) (by omega) (Nat.le_refl _) Tryz.underlying34 tf_sz5 rfl eA21 (subl_len (l := ([] : List UInt8)) (i := 0) (j := ([] : List UInt8).length) (by omega)) eC22⟩⟩, .inr ⟨_, rfl, rfl, .inl ⟨rfl, Do.move rfl⟩⟩, .inr ⟨_, rfl, rfl, .inl ⟨rfl, Do.nilCheck rfl⟩⟩, .inr ⟨_, rfl, rfl, .inl ⟨rfl, Do.fieldAddrB tf_fo123_1 rfl rfl⟩⟩, .inr ⟨_, rfl, rfl, .inl ⟨rfl, Do.load tf_flat3 rfl (Cell.own 1 0 rfl rfl rfl)⟩⟩, .inr ⟨_, rfl, rfl, .inl ⟨rfl, Do.move rfl⟩⟩, .inr ⟨_, rfl, rfl, .inl ⟨rfl, Do.add (z := 0 + (n : Int)) rfl rfl (w64 (by omega) (by omega))⟩⟩, trivial⟩, rfl, rfl, by kernel_rfl, _, rfl, rfl, rfl, _, Do.call tf_body227 rfl (growsl_ok (l := subl ([] : List UInt8) 0 ([] : List UInt8).length) (o23.rd (i := 0) rfl) (0 + n) (by omega) (by first | omega | (simp only [List.length_append, List.length_cons, List.length_nil, subl]; omega) | (simp [subl]; done) | (simp [subl]; omega)) (by omega) (by omega)), ?_⟩
            rintro _ _ ⟨⟨A24, C25, l26, s27, o28⟩, h29, h30, rfl, rfl⟩
            obtain rfl : subl ([] : List UInt8) 0 ([] : List UInt8).length = l26 := h29.symm
            have hgs := h30
            dsimp only at hgs
            refine ⟨[(17, .pointer (some ⟨b, 2, none⟩)), (18, .pointer (some ⟨b, 2, none⟩))], rfl, ?_⟩
            refine ⟨⟨.inr ⟨_, rfl, rfl, .inl ⟨rfl, Do.nilCheck rfl⟩⟩, .inr ⟨_, rfl, rfl, .inl ⟨rfl, Do.fieldAddrB tf_fo123_0 rfl rfl⟩⟩, .inr ⟨_, rfl, rfl, .inl ⟨rfl, Do.move rfl⟩⟩, .inl (by kernel_rfl), .inl (by kernel_rfl), .inl (by kernel_rfl), .inl (by kernel_rfl), .inl (by kernel_rfl), .inl (by kernel_rfl), .inl (by kernel_rfl), .inl (by kernel_rfl), .inl (by kernel_rfl), .inl (by kernel_rfl), .inl (by kernel_rfl), .inl (by kernel_rfl), .inl (by kernel_rfl), .inl (by kernel_rfl), .inl (by kernel_rfl), trivial⟩, rfl, rfl, by kernel_rfl, _, rfl, rfl, rfl, _, Do.store (H' := s27 :: s11 :: [(b, .cells #[.int .i64 m, .bool br, .slice A24 (subl ([] : List UInt8) 0 ([] : List UInt8).length).length C25, .int .i64 0, .int .i8 0, .int .i64 e] 125 (0, 0))] :: H) 2 0 tf_sz34 rfl rfl rfl rfl rfl rfl rfl rfl rfl, ?_⟩
            rintro _ _ ⟨rfl, rfl⟩
            refine ⟨[], rfl, ?_⟩
            refine ⟨⟨.inl (by kernel_rfl), .inl (by kernel_rfl), .inl (by kernel_rfl), .inl (by kernel_rfl), .inl (by kernel_rfl), .inl (by kernel_rfl), .inl (by kernel_rfl), .inl (by kernel_rfl), .inl (by kernel_rfl), .inl (by kernel_rfl), .inl (by kernel_rfl), .inl (by kernel_rfl), .inl (by kernel_rfl), .inl (by kernel_rfl), .inl (by kernel_rfl), .inl (by kernel_rfl), .inl (by kernel_rfl), .inl (by kernel_rfl), trivial⟩, by kernel_rfl, ?_⟩
            refine At.mono (E' := [(0, .pointer (some ⟨b, 2, none⟩)), (1, .int .i64 (n : Int)), (5, .int .i64 ((y.l.length - off : Nat) : Int))]) ⟨rfl, rfl, rfl, trivial⟩ ?_
            refine At.seq ?_
            refine At.region ?_
            refine AtL.move (.inl rfl) rfl rfl ?_
            refine AtL.nilCheck (.inl rfl) rfl rfl ?_
            refine AtL.fieldAddrB tf_fo123_1 (.inl rfl) rfl rfl rfl ?_
            refine AtL.store (H' := s27 :: s11 :: [(b, .cells #[.int .i64 m, .bool br, .slice A24 (subl ([] : List UInt8) 0 ([] : List UInt8).length).length C25, .int .i64 0, .int .i8 0, .int .i64 e] 125 (0, 0))] :: H) 2 0 tf_sz3 (.inl rfl) rfl rfl rfl rfl rfl rfl rfl rfl rfl ?_
            refine AtL.done ?_
            refine At.seq ?_
            refine At.region ?_
            refine AtL.move (.inl rfl) rfl rfl ?_
            refine AtL.move (.inl rfl) rfl rfl ?_
            refine AtL.nilCheck (.inl rfl) rfl rfl ?_
            refine AtL.fieldAddrB tf_fo123_0 (.inl rfl) rfl rfl rfl ?_
            refine AtL.load tf_flat34 (.inl rfl) rfl rfl (Cell.own 2 0 rfl rfl rfl) ?_
            refine AtL.move (.inl rfl) rfl rfl ?_
            refine AtL.move (.inl rfl) rfl rfl ?_
            refine AtL.add (z := ((y.l.length - off : Nat) : Int) + (n : Int)) (.inl rfl) rfl rfl rfl (w64 (by omega) (by omega)) ?_
            have hz0 : (subl ([] : List UInt8) 0 ([] : List UInt8).length).length = 0 := by simp [subl]
            obtain ⟨r38, hr39, o40⟩ := Own.grow o28 (j := (y.l.length - off) + n) (by omega) (by omega)
            obtain ⟨A41, eA41⟩ : ∃ A41 : Option Addr, A41 = (if C25 = 0 then A24 else Option.map (fun a => a.add (0 * tyB.sz)) A24) := ⟨_, rfl⟩
            rw [← eA41] at o40
            refine AtL.ofIs (Do.sliceX_ (T := tyB) (l := subl ([] : List UInt8) 0 ([] : List UInt8).length) (n' := ((subl ([] : List UInt8) 0 ([] : List UInt8).length) ++ r38).length) (C' := C25) 0 ((y.l.length - off) + n) C25 rfl (evBound_some rfl (by omega)) rfl (by intro h; cases h) (Nat.zero_le _) (by omega) (Nat.le_refl _) Tryz.underlying34 tf_sz5 rfl eA41 (by rw [List.length_append, hr39]; omega) (by omega)) (.inl rfl) rfl ?_
            refine AtL.nilCheck (.inl rfl) rfl rfl ?_
            refine AtL.fieldAddrB tf_fo123_0 (.inl rfl) rfl rfl rfl ?_
            refine AtL.store (H' := s27 :: s11 :: [(b, .cells #[.int .i64 m, .bool br, .slice A41 ((subl ([] : List UInt8) 0 ([] : List UInt8).length) ++ r38).length C25, .int .i64 0, .int .i8 0, .int .i64 e] 125 (0, 0))] :: H) 2 0 tf_sz34 (.inl rfl) rfl rfl rfl rfl rfl rfl rfl rfl rfl ?_
            refine AtL.done ?_
            refine At.seq ?_
            refine At.region ?_
            refine AtL.move (.inl rfl) rfl rfl ?_
            refine AtL.assign (.inl rfl) rfl rfl ?_
            refine AtL.done ?_
            refine At.pick (H' := s27 :: [(b, .cells #[.int .i64 m, .bool br, .slice A41 ((subl ([] : List UInt8) 0 ([] : List UInt8).length) ++ r38).length C25, .int .i64 0, .int .i8 0, .int .i64 e] 125 (0, 0))] :: H) [0, 2] 3 rfl rfl ?_
            have hd : y.l.drop off = [] := List.drop_eq_nil_of_le (by omega)
            exact At.ret Tryz.func222 rfl rfl (⟨⟨A41, C25, (subl ([] : List UInt8) 0 ([] : List UInt8).length) ++ r38, s27, o40⟩, 0, 0, by omega, by omega, by dsimp only; rw [List.length_append, hr39]; omega, by rw [hd]; simp, congrArg int (by omega), rfl⟩)
    · intro hc1
      have hc1 : ¬ ((((y.l.length - off : Nat) : Int) = 0) ∧ (¬ ((off : Int) = 0))) := of_decide_eq_false hc1
      refine At.skip ?_
      refine At.seq ?_
      refine At.seq ?_
      refine At.region ?_
      refine AtL.move (.inl rfl) rfl rfl ?_
      refine AtL.move (.inl rfl) rfl rfl ?_
      refine AtL.call tf_body221 (.inl rfl) rfl rfl (btry_ok (y := y) n (by first | omega | (simp only [List.length_append, List.length_cons, List.length_nil, subl]; omega) | (simp [subl]; done) | (simp [subl]; omega)) (by omega)) ?_
      rintro _ _ ⟨⟨A42, C43, l44, s45, o46⟩, ok47, k50, h48, h49, rfl, rfl⟩
      have hok1 := h48
      have hok2 := h49
      dsimp only at hok1 hok2
      refine AtL.move (.inl rfl) rfl rfl ?_
      refine AtL.extract (.inl rfl) rfl rfl rfl ?_
      refine AtL.extract (.inl rfl) rfl rfl rfl ?_
      refine AtL.assign (.inl rfl) rfl rfl ?_
      refine AtL.assign (.inl rfl) rfl rfl ?_
      refine AtL.done ?_
      refine At.seq ?_
      refine At.region ?_
      refine AtL.move (.inl rfl) rfl rfl ?_
      refine AtL.done ?_
      refine At.cond rfl ?_ ?_
      · intro hc2
        have hc2 : ok47 = true := hc2
        obtain ⟨hzk, hzt, hzn⟩ := hok1 hc2
        refine At.seq ?_
        refine At.region ?_
        refine AtL.move (.inl rfl) rfl rfl ?_
        refine AtL.assign (.inl rfl) rfl rfl ?_
        refine AtL.done ?_
        try dsimp only [List.length_nil, List.take_zero] at hzt hzn
        exact At.ret Tryz.func222 rfl rfl (⟨⟨A42, C43, l44, s45, o46⟩, off, y.l.length, by omega, by omega, hzn, by dsimp only; rw [hzt], congrArg int (by rw [hzk]), rfl⟩)
      · intro hc2
        have hc2 : ok47 = false := hc2
        obtain ⟨hzl, hzC⟩ := hok2 hc2
        try simp only [List.length_nil] at hzC
        subst hzl
        refine At.skip ?_
        refine At.seq ?_
        refine At.seq ?_
        refine At.region ?_
        refine AtL.move (.inl rfl) rfl rfl ?_
        refine AtL.nilCheck (.inl rfl) rfl rfl ?_
        refine AtL.fieldAddrB tf_fo123_0 (.inl rfl) rfl rfl rfl ?_
        refine AtL.load tf_flat34 (.inl rfl) rfl rfl (Cell.own 1 0 rfl rfl rfl) ?_
        refine AtL.eqSliceNil Tryz.underlying34 (.inl rfl) rfl rfl rfl ?_
        refine AtL.move (.inl rfl) rfl rfl ?_
        refine AtL.join 3 (E' := [(38, .bool (decide ((A42.isNone = true) ∧ ((n : Int) ≤ 64)))), (0, .pointer (some ⟨b, 2, none⟩)), (1, .int .i64 (n : Int)), (5, .int .i64 ((y.l.length - off : Nat) : Int))]) (H' := s45 :: [(b, .cells #[.int .i64 m, .bool br, .slice A42 y.l.length C43, .int .i64 (off : Int), .int .i8 0, .int .i64 e] 125 (0, 0))] :: H) (fun J => ?_) ?_
        · refine AtL.split (t := 35) rfl ?_ ?_
          · intro hs35
            have hs35 : A42.isNone = true := hs35
            refine AtL.move (.inr ⟨_, _, _, rfl, rfl, rfl, rfl⟩) rfl rfl ?_
            refine AtL.leq (.inr ⟨_, _, _, rfl, rfl, rfl, rfl⟩) rfl rfl rfl ?_
            refine AtL.pickT (.inl rfl) rfl rfl rfl ?_
            exact J _ (by exact ⟨(boolIs (by clear J; first | (simp [hs35]; done) | (simp_all; done) | grind)), rfl, rfl, rfl, trivial⟩)
          · intro hs35
            have hs35 : A42.isNone = false := hs35
            refine AtL.skipped rfl rfl rfl rfl rfl rfl ?_
            refine AtL.skipped rfl rfl rfl rfl rfl rfl ?_
            refine AtL.pickF (.inl rfl) rfl rfl rfl ?_
            exact J _ (by exact ⟨(boolIs (by clear J; first | (simp [hs35]; done) | (simp_all; done) | grind)), rfl, rfl, rfl, trivial⟩)
        · skip
          refine AtL.done ?_
          refine At.cond rfl ?_ ?_
          · intro hc3
            have hc3 : (A42.isNone = true) ∧ ((n : Int) ≤ 64) := of_decide_eq_true hc3
            refine At.seq ?_
            refine At.region ?_
            refine AtL.move (.inl rfl) rfl rfl ?_
            refine AtL.move (.inl rfl) rfl rfl ?_
            refine AtL.makeSlice (n := n) (c := 64) tf_el34 (by decide) (.inl rfl) rfl rfl rfl (by omega) (by omega) ?_
            intro A51 s52 o53 q54
            refine AtL.nilCheck (.inl rfl) rfl rfl ?_
            refine AtL.fieldAddrB tf_fo123_0 (.inl rfl) rfl rfl rfl ?_
            refine AtL.store (H' := s52 :: s45 :: [(b, .cells #[.int .i64 m, .bool br, .slice A51 (List.replicate n (0 : UInt8)).length 64, .int .i64 (off : Int), .int .i8 0, .int .i64 e] 125 (0, 0))] :: H) 2 0 tf_sz34 (.inl rfl) rfl rfl rfl rfl rfl rfl rfl rfl rfl ?_
            refine AtL.done ?_
            refine At.seq ?_
            refine At.region ?_
            refine AtL.assign (.inl rfl) rfl rfl ?_
            refine AtL.done ?_
            refine At.pick (H' := s52 :: [(b, .cells #[.int .i64 m, .bool br, .slice A51 (List.replicate n (0 : UInt8)).length 64, .int .i64 (off : Int), .int .i8 0, .int .i64 e] 125 (0, 0))] :: H) [0, 2] 3 rfl rfl ?_
            have hy0 : y.l.length = 0 := by rw [Own.none_nil o46 (by simpa using hc3.1)]; rfl
            have hn0 : y.l.drop off = [] := by rw [List.eq_nil_of_length_eq_zero (l := y.l) (by omega)]; simp
            exact At.ret Tryz.func222 rfl rfl (⟨⟨A51, 64, List.replicate n (0 : UInt8), s52, o53⟩, off, 0, by omega, by omega, by simp, by rw [hn0]; simp, congrArg int (rfl), rfl⟩)
          · intro hc3
            have hc3 : ¬ ((A42.isNone = true) ∧ ((n : Int) ≤ 64)) := of_decide_eq_false hc3
            refine At.skip ?_
            refine At.seq ?_
            refine At.region ?_
            refine AtL.move (.inl rfl) rfl rfl ?_
            refine AtL.nilCheck (.inl rfl) rfl rfl ?_
            refine AtL.fieldAddrB tf_fo123_0 (.inl rfl) rfl rfl rfl ?_
            refine AtL.load tf_flat34 (.inl rfl) rfl rfl (Cell.own 1 0 rfl rfl rfl) ?_
            refine AtL.capL Tryz.underlying34 (.inl rfl) rfl rfl ?_
            refine AtL.assign (.inl rfl) rfl rfl ?_
            refine AtL.done ?_
            refine At.seq ?_
            refine At.seq ?_
            refine At.region ?_
            refine AtL.move (.inl rfl) rfl rfl ?_
            refine AtL.move (.inl rfl) rfl rfl ?_
            refine AtL.quo (z := (C43 : Int) / 2) (.inl rfl) rfl rfl rfl (by omega) (quo_eq (by omega) (by omega) (by omega)) ?_
            refine AtL.move (.inl rfl) rfl rfl ?_
            refine AtL.sub (z := ((C43 : Int) / 2) - ((y.l.length - off : Nat) : Int)) (.inl rfl) rfl rfl rfl (w64 (by omega) (by omega)) ?_
            refine AtL.leq (.inl rfl) rfl rfl rfl ?_
            refine AtL.done ?_
            refine At.cond rfl ?_ ?_
            · intro hc4
              have hc4 : (n : Int) ≤ (((C43 : Int) / 2) - ((y.l.length - off : Nat) : Int)) := of_decide_eq_true hc4
              have hleo57 := Own.le_cap o46
              obtain ⟨A55, eA55⟩ : ∃ A55 : Option Addr, A55 = (if C43 = off then A42 else Option.map (fun a => a.add (off * tyB.sz)) A42) := ⟨_, rfl⟩
              obtain ⟨C56, eC56⟩ : ∃ C56 : Nat, C56 = C43 - off := ⟨_, rfl⟩
              have o57 : Own tyB 5 A55 C56 (subl y.l off y.l.length) s45 := by rw [eA55, eC56]; exact Own.cut o46 (by omega) (by omega) (by omega) (by omega)
              refine At.draw (es := [13]) (pv := [(0, .pointer (some ⟨b, 2, none⟩)), (1, .pointer (some ⟨b, 2, none⟩)), (2, .pointer (some ⟨b, 2, none⟩)), (3, .slice A42 y.l.length C43), (4, .pointer (some ⟨b, 2, none⟩)), (5, .pointer (some ⟨b, 2, none⟩)), (6, .pointer (some ⟨b, 2, none⟩)), (7, .slice A42 y.l.length C43), (8, .pointer (some ⟨b, 2, none⟩)), (9, .pointer (some ⟨b, 2, none⟩)), (10, .pointer (some ⟨b, 3, none⟩)), (11, .int .i64 (off : Int)), (12, .slice A55 (subl y.l off y.l.length).length C56)]) tf_mixed (by kernel_rfl) (by kernel_rfl) (by kernel_rfl) ?_
              refine ⟨⟨.inr ⟨_, rfl, rfl, .inl ⟨rfl, Do.move rfl⟩⟩, .inr ⟨_, rfl, rfl, .inl ⟨rfl, Do.nilCheck rfl⟩⟩, .inr ⟨_, rfl, rfl, .inl ⟨rfl, Do.fieldAddrB tf_fo123_0 rfl rfl⟩⟩, .inr ⟨_, rfl, rfl, .inl ⟨rfl, Do.load tf_flat34 rfl (Cell.own 1 0 rfl rfl rfl)⟩⟩, .inr ⟨_, rfl, rfl, .inl ⟨rfl, Do.move rfl⟩⟩, .inr ⟨_, rfl, rfl, .inl ⟨rfl, Do.nilCheck rfl⟩⟩, .inr ⟨_, rfl, rfl, .inl ⟨rfl, Do.fieldAddrB tf_fo123_0 rfl rfl⟩⟩, .inr ⟨_, rfl, rfl, .inl ⟨rfl, Do.load tf_flat34 rfl (Cell.own 1 0 rfl rfl rfl)⟩⟩, .inr ⟨_, rfl, rfl, .inl ⟨rfl, Do.move rfl⟩⟩, .inr ⟨_, rfl, rfl, .inl ⟨rfl, Do.nilCheck rfl⟩⟩, .inr ⟨_, rfl, rfl, .inl ⟨rfl, Do.fieldAddrB tf_fo123_1 rfl rfl⟩⟩, .inr ⟨_, rfl, rfl, .inl ⟨rfl, Do.load tf_flat3 rfl (Cell.own 1 0 rfl rfl rfl)⟩⟩, .inr ⟨_, rfl, rfl, .inl ⟨rfl, Do.sliceX_ (T := tyB) (l := y.l) off y.l.length C43 (evBound_some rfl rfl) rfl rfl (by intro h; cases h) (by omega) (by omega) (Nat.le_refl _) Tryz.underlying34 tf_sz5 rfl eA55 (subl_len (l := y.l) (i := off) (j := y.l.length) (by omega)) eC56⟩⟩, trivial⟩, rfl, rfl, by kernel_rfl, _, rfl, rfl, rfl, _, Do.copy 0 Tryz.underlying34 tf_sz5 rfl o46 (o57.rd (i := 0) rfl) rfl rfl, ?_⟩
              rintro _ _ ⟨s58, o59, rfl, rfl⟩
              refine ⟨[], rfl, ?_⟩
              refine ⟨⟨.inl (by kernel_rfl), .inl (by kernel_rfl), .inl (by kernel_rfl), .inl (by kernel_rfl), .inl (by kernel_rfl), .inl (by kernel_rfl), .inl (by kernel_rfl), .inl (by kernel_rfl), .inl (by kernel_rfl), .inl (by kernel_rfl), .inl (by kernel_rfl), .inl (by kernel_rfl), .inl (by kernel_rfl), trivial⟩, by kernel_rfl, ?_⟩
              refine At.eqH (H' := s58 :: [(b, .cells #[.int .i64 m, .bool br, .slice A42 ((subl y.l off y.l.length).take y.l.length ++ y.l.drop (subl y.l off y.l.length).length).length C43, .int .i64 (off : Int), .int .i8 0, .int .i64 e] 125 (0, 0))] :: H) (by first | (rw [show ((subl y.l off y.l.length).take y.l.length ++ y.l.drop (subl y.l off y.l.length).length).length = y.l.length from (copy_len _ _)]; done) | (rw [show ((subl y.l off y.l.length).take y.l.length ++ y.l.drop (subl y.l off y.l.length).length).length = y.l.length from (copy_len _ _)]; rfl)) ?_
              refine At.mono (E' := [(0, .pointer (some ⟨b, 2, none⟩)), (1, .int .i64 (n : Int)), (5, .int .i64 ((y.l.length - off : Nat) : Int))]) ⟨rfl, rfl, rfl, trivial⟩ ?_
              have hb4 : ((subl y.l off y.l.length).take y.l.length ++ y.l.drop (subl y.l off y.l.length).length).length = y.l.length := copy_len _ _
              refine At.seq ?_
              refine At.region ?_
              refine AtL.move (.inl rfl) rfl rfl ?_
              refine AtL.nilCheck (.inl rfl) rfl rfl ?_
              refine AtL.fieldAddrB tf_fo123_1 (.inl rfl) rfl rfl rfl ?_
              refine AtL.store (H' := s58 :: [(b, .cells #[.int .i64 m, .bool br, .slice A42 ((subl y.l off y.l.length).take y.l.length ++ y.l.drop (subl y.l off y.l.length).length).length C43, .int .i64 0, .int .i8 0, .int .i64 e] 125 (0, 0))] :: H) 1 0 tf_sz3 (.inl rfl) rfl rfl rfl rfl rfl rfl rfl rfl rfl ?_
              refine AtL.done ?_
              refine At.seq ?_
              refine At.region ?_
              refine AtL.move (.inl rfl) rfl rfl ?_
              refine AtL.move (.inl rfl) rfl rfl ?_
              refine AtL.nilCheck (.inl rfl) rfl rfl ?_
              refine AtL.fieldAddrB tf_fo123_0 (.inl rfl) rfl rfl rfl ?_
              refine AtL.load tf_flat34 (.inl rfl) rfl rfl (Cell.own 1 0 rfl rfl rfl) ?_
              refine AtL.move (.inl rfl) rfl rfl ?_
              refine AtL.move (.inl rfl) rfl rfl ?_
              refine AtL.add (z := ((y.l.length - off : Nat) : Int) + (n : Int)) (.inl rfl) rfl rfl rfl (w64 (by omega) (by omega)) ?_
              have hleo64 := Own.le_cap o59
              obtain ⟨A62, eA62⟩ : ∃ A62 : Option Addr, A62 = (if C43 = 0 then A42 else Option.map (fun a => a.add (0 * tyB.sz)) A42) := ⟨_, rfl⟩
              obtain ⟨C63, eC63⟩ : ∃ C63 : Nat, C63 = C43 - 0 := ⟨_, rfl⟩
              have o64 : Own tyB 5 A62 C63 (subl ((subl y.l off y.l.length).take y.l.length ++ y.l.drop (subl y.l off y.l.length).length) 0 ((y.l.length - off : Nat) + n)) s58 := by rw [eA62, eC63]; exact Own.cut o59 (by omega) (by omega) (by omega) (by omega)
              refine AtL.ofIs (Do.sliceX_ (T := tyB) (l := (subl y.l off y.l.length).take y.l.length ++ y.l.drop (subl y.l off y.l.length).length) 0 ((y.l.length - off : Nat) + n) C43 rfl (evBound_some rfl rfl) rfl (by intro h; cases h) (by omega) (by omega) (Nat.le_refl _) Tryz.underlying34 tf_sz5 rfl eA62 (subl_len (l := (subl y.l off y.l.length).take y.l.length ++ y.l.drop (subl y.l off y.l.length).length) (i := 0) (j := ((y.l.length - off : Nat) + n)) (by omega)) eC63) (.inl rfl) rfl ?_
              have hlo64 : (subl ((subl y.l off y.l.length).take y.l.length ++ y.l.drop (subl y.l off y.l.length).length) 0 ((y.l.length - off : Nat) + n)).length = ((y.l.length - off : Nat) + n) - 0 := subl_len (by omega)
              refine AtL.nilCheck (.inl rfl) rfl rfl ?_
              refine AtL.fieldAddrB tf_fo123_0 (.inl rfl) rfl rfl rfl ?_
              refine AtL.store (H' := s58 :: [(b, .cells #[.int .i64 m, .bool br, .slice A62 (subl ((subl y.l off y.l.length).take y.l.length ++ y.l.drop (subl y.l off y.l.length).length) 0 ((y.l.length - off : Nat) + n)).length C63, .int .i64 0, .int .i8 0, .int .i64 e] 125 (0, 0))] :: H) 1 0 tf_sz34 (.inl rfl) rfl rfl rfl rfl rfl rfl rfl rfl rfl ?_
              refine AtL.done ?_
              refine At.seq ?_
              refine At.region ?_
              refine AtL.move (.inl rfl) rfl rfl ?_
              refine AtL.assign (.inl rfl) rfl rfl ?_
              refine AtL.done ?_
              have hsl : (subl y.l off y.l.length).length = y.l.length - off := subl_len (Nat.le_refl _)
              exact At.ret Tryz.func222 rfl rfl (⟨⟨A62, C63, subl ((subl y.l off y.l.length).take y.l.length ++ y.l.drop (subl y.l off y.l.length).length) 0 ((y.l.length - off : Nat) + n), s58, o64⟩, 0, y.l.length - off, by omega, by omega, by dsimp only; rw [subl_len (by omega)]; omega, by dsimp only; rw [subl_to, List.drop_zero, List.take_take, Nat.min_eq_left (by omega), List.take_append_of_le_length (by rw [List.length_take]; omega), List.take_of_length_le (by rw [List.length_take]; omega), List.take_of_length_le (by omega), subl_from], congrArg int (rfl), rfl⟩)
            · intro hc4
              have hc4 : ¬ ((n : Int) ≤ (((C43 : Int) / 2) - ((y.l.length - off : Nat) : Int))) := of_decide_eq_false hc4
              refine At.seq ?_
              refine At.region ?_
              refine AtL.move (.inl rfl) rfl rfl ?_
              refine AtL.move (.inl rfl) rfl rfl ?_
              refine AtL.sub (z := 9223372036854775807 - (C43 : Int)) (.inl rfl) rfl rfl rfl (w64 (by omega) (by omega)) ?_
              refine AtL.move (.inl rfl) rfl rfl ?_
              refine AtL.sub (z := (9223372036854775807 - (C43 : Int)) - (n : Int)) (.inl rfl) rfl rfl rfl (w64 (by omega) (by omega)) ?_
              refine AtL.gtr (.inl rfl) rfl rfl rfl ?_
              refine AtL.done ?_
              refine At.condIs false rfl (decide_eq_false (by omega)) ?_
              have hleo67 := Own.le_cap o46
              obtain ⟨A65, eA65⟩ : ∃ A65 : Option Addr, A65 = (if C43 = off then A42 else Option.map (fun a => a.add (off * tyB.sz)) A42) := ⟨_, rfl⟩
              obtain ⟨C66, eC66⟩ : ∃ C66 : Nat, C66 = C43 - off := ⟨_, rfl⟩
              have o67 : Own tyB 5 A65 C66 (subl y.l off y.l.length) s45 := by rw [eA65, eC66]; exact Own.cut o46 (by omega) (by omega) (by omega) (by omega)
              refine At.draw (es := [16, 19]) (pv := [(0, .pointer (some ⟨b, 2, none⟩)), (1, .pointer (some ⟨b, 2, none⟩)), (2, .pointer (some ⟨b, 2, none⟩)), (3, .pointer (some ⟨b, 2, none⟩)), (4, .slice A42 y.l.length C43), (5, .pointer (some ⟨b, 2, none⟩)), (6, .pointer (some ⟨b, 2, none⟩)), (7, .pointer (some ⟨b, 3, none⟩)), (8, .int .i64 (off : Int)), (9, .slice A65 (subl y.l off y.l.length).length C66), (10, .pointer (some ⟨b, 2, none⟩)), (11, .pointer (some ⟨b, 2, none⟩)), (12, .pointer (some ⟨b, 3, none⟩)), (13, .int .i64 (off : Int)), (14, .int .i64 (n : Int)), (15, .int .i64 ((off : Int) + (n : Int)))]) tf_mixed (by kernel_rfl) (by kernel_rfl) (by kernel_rfl) ?_
              refine ⟨⟨.inr ⟨_, rfl, rfl, .inl ⟨rfl, Do.move rfl⟩⟩, .inr ⟨_, rfl, rfl, .inl ⟨rfl, Do.move rfl⟩⟩, .inr ⟨_, rfl, rfl, .inl ⟨rfl, Do.nilCheck rfl⟩⟩, .inr ⟨_, rfl, rfl, .inl ⟨rfl, Do.fieldAddrB tf_fo123_0 rfl rfl⟩⟩, .inr ⟨_, rfl, rfl, .inl ⟨rfl, Do.load tf_flat34 rfl (Cell.own 1 0 rfl rfl rfl)⟩⟩, .inr ⟨_, rfl, rfl, .inl ⟨rfl, Do.move rfl⟩⟩, .inr ⟨_, rfl, rfl, .inl ⟨rfl, Do.nilCheck rfl⟩⟩, .inr ⟨_, rfl, rfl, .inl ⟨rfl, Do.fieldAddrB tf_fo123_1 rfl rfl⟩⟩, .inr ⟨_, rfl, rfl, .inl ⟨rfl, Do.load tf_flat3 rfl (Cell.own 1 0 rfl rfl rfl)⟩⟩, .inr ⟨_, rfl, rfl, .inl ⟨rfl, Do.sliceX_ (T := tyB) (l := y.l) off y.l.length C43 (evBound_some rfl rfl) rfl rfl (by intro h; cases h) (by omega) (by omega) (Nat.le_refl _) Tryz.underlying34 tf_sz5 rfl eA65 (subl_len (l := y.l) (i := off) (j := y.l.length) (by omega)) eC66⟩⟩, .inr ⟨_, rfl, rfl, .inl ⟨rfl, Do.move rfl⟩⟩, .inr ⟨_, rfl, rfl, .inl ⟨rfl, Do.nilCheck rfl⟩⟩, .inr ⟨_, rfl, rfl, .inl ⟨rfl, Do.fieldAddrB tf_fo123_1 rfl rfl⟩⟩, .inr ⟨_, rfl, rfl, .inl ⟨rfl, Do.load tf_flat3 rfl (Cell.own 1 0 rfl rfl rfl)⟩⟩, .inr ⟨_, rfl, rfl, .inl ⟨rfl, Do.move rfl⟩⟩, .inr ⟨_, rfl, rfl, .inl ⟨rfl, Do.add (z := (off : Int) + (n : Int)) rfl rfl (w64 (by omega) (by omega))⟩⟩, trivial⟩, rfl, rfl, by kernel_rfl, _, rfl, rfl, rfl, _, Do.call tf_body227 rfl (growsl_ok (l := subl y.l off y.l.length) (o67.rd (i := 0) rfl) (off + n) (by omega) (by first | omega | (simp only [List.length_append, List.length_cons, List.length_nil, subl]; omega) | (simp [subl]; done) | (simp [subl]; omega)) (by omega) (by omega)), ?_⟩
              rintro _ _ ⟨⟨A68, C69, l70, s71, o72⟩, h73, h74, rfl, rfl⟩
              obtain rfl : subl y.l off y.l.length = l70 := h73.symm
              have hgs := h74
              dsimp only at hgs
              refine ⟨[(17, .pointer (some ⟨b, 2, none⟩)), (18, .pointer (some ⟨b, 2, none⟩))], rfl, ?_⟩
              refine ⟨⟨.inr ⟨_, rfl, rfl, .inl ⟨rfl, Do.nilCheck rfl⟩⟩, .inr ⟨_, rfl, rfl, .inl ⟨rfl, Do.fieldAddrB tf_fo123_0 rfl rfl⟩⟩, .inr ⟨_, rfl, rfl, .inl ⟨rfl, Do.move rfl⟩⟩, .inl (by kernel_rfl), .inl (by kernel_rfl), .inl (by kernel_rfl), .inl (by kernel_rfl), .inl (by kernel_rfl), .inl (by kernel_rfl), .inl (by kernel_rfl), .inl (by kernel_rfl), .inl (by kernel_rfl), .inl (by kernel_rfl), .inl (by kernel_rfl), .inl (by kernel_rfl), .inl (by kernel_rfl), .inl (by kernel_rfl), .inl (by kernel_rfl), trivial⟩, rfl, rfl, by kernel_rfl, _, rfl, rfl, rfl, _, Do.store (H' := s71 :: s45 :: [(b, .cells #[.int .i64 m, .bool br, .slice A68 (subl y.l off y.l.length).length C69, .int .i64 (off : Int), .int .i8 0, .int .i64 e] 125 (0, 0))] :: H) 2 0 tf_sz34 rfl rfl rfl rfl rfl rfl rfl rfl rfl, ?_⟩
              rintro _ _ ⟨rfl, rfl⟩
              refine ⟨[], rfl, ?_⟩
              refine ⟨⟨.inl (by kernel_rfl), .inl (by kernel_rfl), .inl (by kernel_rfl), .inl (by kernel_rfl), .inl (by kernel_rfl), .inl (by kernel_rfl), .inl (by kernel_rfl), .inl (by kernel_rfl), .inl (by kernel_rfl), .inl (by kernel_rfl), .inl (by kernel_rfl), .inl (by kernel_rfl), .inl (by kernel_rfl), .inl (by kernel_rfl), .inl (by kernel_rfl), .inl (by kernel_rfl), .inl (by kernel_rfl), .inl (by kernel_rfl), trivial⟩, by kernel_rfl, ?_⟩
              refine At.mono (E' := [(0, .pointer (some ⟨b, 2, none⟩)), (1, .int .i64 (n : Int)), (5, .int .i64 ((y.l.length - off : Nat) : Int))]) ⟨rfl, rfl, rfl, trivial⟩ ?_
              refine At.seq ?_
              refine At.region ?_
              refine AtL.move (.inl rfl) rfl rfl ?_
              refine AtL.nilCheck (.inl rfl) rfl rfl ?_
              refine AtL.fieldAddrB tf_fo123_1 (.inl rfl) rfl rfl rfl ?_
              refine AtL.store (H' := s71 :: s45 :: [(b, .cells #[.int .i64 m, .bool br, .slice A68 (subl y.l off y.l.length).length C69, .int .i64 0, .int .i8 0, .int .i64 e] 125 (0, 0))] :: H) 2 0 tf_sz3 (.inl rfl) rfl rfl rfl rfl rfl rfl rfl rfl rfl ?_
              refine AtL.done ?_
              refine At.seq ?_
              refine At.region ?_
              refine AtL.move (.inl rfl) rfl rfl ?_
              refine AtL.move (.inl rfl) rfl rfl ?_
              refine AtL.nilCheck (.inl rfl) rfl rfl ?_
              refine AtL.fieldAddrB tf_fo123_0 (.inl rfl) rfl rfl rfl ?_
              refine AtL.load tf_flat34 (.inl rfl) rfl rfl (Cell.own 2 0 rfl rfl rfl) ?_
              refine AtL.move (.inl rfl) rfl rfl ?_
              refine AtL.move (.inl rfl) rfl rfl ?_
              refine AtL.add (z := ((y.l.length - off : Nat) : Int) + (n : Int)) (.inl rfl) rfl rfl rfl (w64 (by omega) (by omega)) ?_
              have hsl0 : (subl y.l off y.l.length).length = y.l.length - off := subl_len (Nat.le_refl _)
              obtain ⟨r82, hr83, o84⟩ := Own.grow o72 (j := (y.l.length - off) + n) (by omega) (by omega)
              obtain ⟨A85, eA85⟩ : ∃ A85 : Option Addr, A85 = (if C69 = 0 then A68 else Option.map (fun a => a.add (0 * tyB.sz)) A68) := ⟨_, rfl⟩
              rw [← eA85] at o84
              refine AtL.ofIs (Do.sliceX_ (T := tyB) (l := subl y.l off y.l.length) (n' := ((subl y.l off y.l.length) ++ r82).length) (C' := C69) 0 ((y.l.length - off) + n) C69 rfl (evBound_some rfl (by omega)) rfl (by intro h; cases h) (Nat.zero_le _) (by omega) (Nat.le_refl _) Tryz.underlying34 tf_sz5 rfl eA85 (by rw [List.length_append, hr83]; omega) (by omega)) (.inl rfl) rfl ?_
              refine AtL.nilCheck (.inl rfl) rfl rfl ?_
              refine AtL.fieldAddrB tf_fo123_0 (.inl rfl) rfl rfl rfl ?_
              refine AtL.store (H' := s71 :: s45 :: [(b, .cells #[.int .i64 m, .bool br, .slice A85 ((subl y.l off y.l.length) ++ r82).length C69, .int .i64 0, .int .i8 0, .int .i64 e] 125 (0, 0))] :: H) 2 0 tf_sz34 (.inl rfl) rfl rfl rfl rfl rfl rfl rfl rfl rfl ?_
              refine AtL.done ?_
              refine At.seq ?_
              refine At.region ?_
              refine AtL.move (.inl rfl) rfl rfl ?_
              refine AtL.assign (.inl rfl) rfl rfl ?_
              refine AtL.done ?_
              refine At.pick (H' := s71 :: [(b, .cells #[.int .i64 m, .bool br, .slice A85 ((subl y.l off y.l.length) ++ r82).length C69, .int .i64 0, .int .i8 0, .int .i64 e] 125 (0, 0))] :: H) [0, 2] 3 rfl rfl ?_
              have hsl : (subl y.l off y.l.length).length = y.l.length - off := subl_len (Nat.le_refl _)
              exact At.ret Tryz.func222 rfl rfl (⟨⟨A85, C69, (subl y.l off y.l.length) ++ r82, s71, o84⟩, 0, y.l.length - off, by omega, by omega, by dsimp only; rw [List.length_append, hr83, hsl]; omega, by dsimp only; rw [List.drop_zero, List.take_append_of_le_length (by omega), List.take_of_length_le (by omega), subl_from], congrArg int (rfl), rfl⟩)
theorem write_eq (z p : List UInt8) (k : Nat) (h : z.length = k + p.length) : z.take k ++ p.take (subl z k z.length).length ++ z.drop (k + min p.length (subl z k z.length).length) = z.take k ++ p := by
  have h1 : (subl z k z.length).length = p.length := by rw [subl_len (Nat.le_refl _)]; omega
  rw [h1, Nat.min_self, List.take_of_length_le (Nat.le_refl _), List.drop_eq_nil_of_le (by omega), List.append_nil]
set_option maxHeartbeats 400000 in
theorem bwrite_ok {w0 : World} {base : Nat} {H : List Seg} {b : Nat} {y : Sl tyB 5} {m e lr : Int} {br : Bool} {off : Nat} {A : Option Addr} {C : Nat} {l : List UInt8} (h : Rd tyB w0 base H A C l) (hl : y.l.length + l.length ≤ 500000000) (ho : off ≤ y.l.length) :
    SCalls Tryz.prog 218 [.pointer (some ⟨b, 2, none⟩), .slice A l.length C] w0 base (y.s :: [(b, .cells #[.int .i64 m, .bool br, .slice y.A y.l.length y.C, .int .i64 (off : Int), .int .i8 lr, .int .i64 e] 125 (0, 0))] :: H) (fun v H' => ∃ (z : Sl tyB 5) (o' : Nat), o' ≤ z.l.length ∧ z.l.drop o' = y.l.drop off ++ l ∧ z.l.length ≤ y.l.length + l.length ∧ v = .tuple #[int (l.length : Int), .nilIface] ∧ H' = z.s :: [(b, .cells #[.int .i64 m, .bool br, .slice z.A z.l.length z.C, .int .i64 (o' : Int), .int .i8 0, .int .i64 e] 125 (0, 0))] :: H) := by
  refine SCalls.of_walk (n := 32) Tryz.func218 rfl rfl rfl fun cs => ?_
  refine At.seq ?_
  refine At.region ?_
  refine AtL.assign (.inl rfl) rfl rfl ?_
  refine AtL.assign (.inl rfl) rfl rfl ?_
  refine AtL.done ?_
  refine At.seq ?_
  refine At.region ?_
  refine AtL.move (.inl rfl) rfl rfl ?_
  refine AtL.nilCheck (.inl rfl) rfl rfl ?_
  refine AtL.fieldAddrB tf_fo123_2 (.inl rfl) rfl rfl rfl ?_
  refine AtL.store (H' := y.s :: [(b, .cells #[.int .i64 m, .bool br, .slice y.A y.l.length y.C, .int .i64 (off : Int), .int .i8 0, .int .i64 e] 125 (0, 0))] :: H) 1 0 tf_sz121 (.inl rfl) rfl rfl rfl rfl rfl rfl rfl rfl rfl ?_
  refine AtL.done ?_
  refine At.seq ?_
  refine At.region ?_
  refine AtL.move (.inl rfl) rfl rfl ?_
  refine AtL.move (.inl rfl) rfl rfl ?_
  refine AtL.lenL Tryz.underlying34 (.inl rfl) rfl rfl ?_
  refine AtL.call tf_body221 (.inl rfl) rfl rfl (btry_ok (y := y) l.length (by first | omega | (simp only [List.length_append, List.length_cons, List.length_nil]; omega) | (simp; done) | (simp; omega)) (by omega)) ?_
  rintro _ _ ⟨⟨A1, C2, l3, s4, o5⟩, ok6, k9, h7, h8, rfl, rfl⟩
  have hok1 := h7
  have hok2 := h8
  dsimp only at hok1 hok2
  refine AtL.move (.inl rfl) rfl rfl ?_
  refine AtL.extract (.inl rfl) rfl rfl rfl ?_
  refine AtL.extract (.inl rfl) rfl rfl rfl ?_
  refine AtL.assign (.inl rfl) rfl rfl ?_
  refine AtL.assign (.inl rfl) rfl rfl ?_
  refine AtL.done ?_
  refine At.seq ?_
  refine At.seq ?_
  refine At.region ?_
  refine AtL.move (.inl rfl) rfl rfl ?_
  refine AtL.not (.inl rfl) rfl rfl ?_
  refine AtL.done ?_
  refine At.cond rfl ?_ ?_
  · intro hc1
    have hc1 : ok6 = false := bnot_true hc1
    obtain ⟨hzl, hzC⟩ := hok2 hc1
    subst hzl
    refine At.region ?_
    refine AtL.move (.inl rfl) rfl rfl ?_
    refine AtL.move (.inl rfl) rfl rfl ?_
    refine AtL.lenL Tryz.underlying34 (.inl rfl) rfl rfl ?_
    refine AtL.call tf_body222 (.inl rfl) rfl rfl (bgrow_ok (y := ⟨A1, C2, y.l, s4, o5⟩) (off := off) l.length (by first | omega | (dsimp only; omega)) (by first | omega | (dsimp only; omega))) ?_
    rintro _ _ ⟨⟨A10, C11, l12, s13, o14⟩, p15, m16, h17, h18, h19, h20, rfl, rfl⟩
    have hg1 := h17
    have hg2 := h18
    have hg3 := h19
    have hg4 := h20
    dsimp only at hg2 hg3 hg4
    refine AtL.assign (.inl rfl) rfl rfl ?_
    refine AtL.done ?_
    refine At.seq ?_
    refine At.region ?_
    refine AtL.move (.inl rfl) rfl rfl ?_
    refine AtL.nilCheck (.inl rfl) rfl rfl ?_
    refine AtL.fieldAddrB tf_fo123_0 (.inl rfl) rfl rfl rfl ?_
    refine AtL.load tf_flat34 (.inl rfl) rfl rfl (Cell.own 1 0 rfl rfl rfl) ?_
    refine AtL.move (.inl rfl) rfl rfl ?_
    have hleo23 := Own.le_cap o14
    obtain ⟨A21, eA21⟩ : ∃ A21 : Option Addr, A21 = (if C11 = m16 then A10 else Option.map (fun a => a.add (m16 * tyB.sz)) A10) := ⟨_, rfl⟩
    obtain ⟨C22, eC22⟩ : ∃ C22 : Nat, C22 = C11 - m16 := ⟨_, rfl⟩
    have o23 : Own tyB 5 A21 C22 (subl l12 m16 l12.length) s13 := by rw [eA21, eC22]; exact Own.cut o14 (by omega) (by omega) (by omega) (by omega)
    refine AtL.ofIs (Do.sliceX_ (T := tyB) (l := l12) m16 l12.length C11 (evBound_some rfl rfl) rfl rfl (by intro h; cases h) (by omega) (by omega) (Nat.le_refl _) Tryz.underlying34 tf_sz5 rfl eA21 (subl_len (l := l12) (i := m16) (j := l12.length) (by omega)) eC22) (.inl rfl) rfl ?_
    have hlo23 : (subl l12 m16 l12.length).length = l12.length - m16 := subl_len (by omega)
    refine AtL.move (.inl rfl) rfl rfl ?_
    refine AtL.of (Do.copyAt (j := m16) 0 Tryz.underlying34 tf_sz5 rfl o14 eA21 (by have := Own.le_cap o14; simp only [subl_len (Nat.le_refl _)]; omega) (by simp only [subl_len (Nat.le_refl _)]; omega) (Rd.skip 2 h) rfl rfl) (.inl rfl) rfl ?_
    rintro _ _ ⟨s24, o25, rfl, rfl⟩
    refine AtL.eqH (H' := s24 :: [(b, .cells #[.int .i64 m, .bool br, .slice A10 (l12.take m16 ++ l.take (subl l12 m16 l12.length).length ++ l12.drop (m16 + min l.length (subl l12 m16 l12.length).length)).length C11, .int .i64 (p15 : Int), .int .i8 0, .int .i64 e] 125 (0, 0))] :: H) (by first | (rw [show (l12.take m16 ++ l.take (subl l12 m16 l12.length).length ++ l12.drop (m16 + min l.length (subl l12 m16 l12.length).length)).length = l12.length from (by simp; omega)]; done) | (rw [show (l12.take m16 ++ l.take (subl l12 m16 l12.length).length ++ l12.drop (m16 + min l.length (subl l12 m16 l12.length).length)).length = l12.length from (by simp; omega)]; rfl)) ?_
    refine AtL.assign (.inl rfl) rfl rfl ?_
    refine AtL.assign (.inl rfl) rfl rfl ?_
    refine AtL.done ?_
    have hm : min l.length (subl l12 m16 l12.length).length = l.length := by rw [subl_len (Nat.le_refl _)]; omega
    have hL := write_eq l12 l m16 (by omega)
    have hgt : (l12.take m16).length = m16 := by rw [List.length_take]; omega
    exact At.ret Tryz.func218 rfl rfl (⟨⟨A10, C11, l12.take m16 ++ l.take (subl l12 m16 l12.length).length ++ l12.drop (m16 + min l.length (subl l12 m16 l12.length).length), s24, o25⟩, p15, by dsimp only; rw [hL, List.length_append, hgt]; omega, by dsimp only; rw [hL, List.drop_append_of_le_length (by omega), hg4], by dsimp only; rw [hL, List.length_append, hgt]; omega, by dsimp only [oneOf]; rw [hm], rfl⟩)
  · intro hc1
    have hc1 : ok6 = true := bnot_false hc1
    obtain ⟨hzk, hzt, hzn⟩ := hok1 hc1
    refine At.skip ?_
    refine At.seq ?_
    refine At.region ?_
    refine AtL.move (.inl rfl) rfl rfl ?_
    refine AtL.nilCheck (.inl rfl) rfl rfl ?_
    refine AtL.fieldAddrB tf_fo123_0 (.inl rfl) rfl rfl rfl ?_
    refine AtL.load tf_flat34 (.inl rfl) rfl rfl (Cell.own 1 0 rfl rfl rfl) ?_
    refine AtL.move (.inl rfl) rfl rfl ?_
    have hleo28 := Own.le_cap o5
    obtain ⟨A26, eA26⟩ : ∃ A26 : Option Addr, A26 = (if C2 = k9 then A1 else Option.map (fun a => a.add (k9 * tyB.sz)) A1) := ⟨_, rfl⟩
    obtain ⟨C27, eC27⟩ : ∃ C27 : Nat, C27 = C2 - k9 := ⟨_, rfl⟩
    have o28 : Own tyB 5 A26 C27 (subl l3 k9 l3.length) s4 := by rw [eA26, eC27]; exact Own.cut o5 (by omega) (by omega) (by omega) (by omega)
    refine AtL.ofIs (Do.sliceX_ (T := tyB) (l := l3) k9 l3.length C2 (evBound_some rfl rfl) rfl rfl (by intro h; cases h) (by omega) (by omega) (Nat.le_refl _) Tryz.underlying34 tf_sz5 rfl eA26 (subl_len (l := l3) (i := k9) (j := l3.length) (by omega)) eC27) (.inl rfl) rfl ?_
    have hlo28 : (subl l3 k9 l3.length).length = l3.length - k9 := subl_len (by omega)
    refine AtL.move (.inl rfl) rfl rfl ?_
    refine AtL.of (Do.copyAt (j := k9) 0 Tryz.underlying34 tf_sz5 rfl o5 eA26 (by have := Own.le_cap o5; simp only [subl_len (Nat.le_refl _)]; omega) (by simp only [subl_len (Nat.le_refl _)]; omega) (Rd.skip 2 h) rfl rfl) (.inl rfl) rfl ?_
    rintro _ _ ⟨s29, o30, rfl, rfl⟩
    refine AtL.eqH (H' := s29 :: [(b, .cells #[.int .i64 m, .bool br, .slice A1 (l3.take k9 ++ l.take (subl l3 k9 l3.length).length ++ l3.drop (k9 + min l.length (subl l3 k9 l3.length).length)).length C2, .int .i64 (off : Int), .int .i8 0, .int .i64 e] 125 (0, 0))] :: H) (by first | (rw [show (l3.take k9 ++ l.take (subl l3 k9 l3.length).length ++ l3.drop (k9 + min l.length (subl l3 k9 l3.length).length)).length = l3.length from (by simp; omega)]; done) | (rw [show (l3.take k9 ++ l.take (subl l3 k9 l3.length).length ++ l3.drop (k9 + min l.length (subl l3 k9 l3.length).length)).length = l3.length from (by simp; omega)]; rfl)) ?_
    refine AtL.assign (.inl rfl) rfl rfl ?_
    refine AtL.assign (.inl rfl) rfl rfl ?_
    refine AtL.done ?_
    have hm : min l.length (subl l3 k9 l3.length).length = l.length := by rw [subl_len (Nat.le_refl _)]; omega
    have hL := write_eq l3 l k9 (by omega)
    exact At.ret Tryz.func218 rfl rfl (⟨⟨A1, C2, l3.take k9 ++ l.take (subl l3 k9 l3.length).length ++ l3.drop (k9 + min l.length (subl l3 k9 l3.length).length), s29, o30⟩, off, by dsimp only; rw [hL, hzk, hzt, List.length_append]; omega, by dsimp only; rw [hL, hzk, hzt, List.drop_append_of_le_length ho], by dsimp only; rw [hL, hzk, hzt, List.length_append]; omega, by dsimp only [oneOf]; rw [hm], rfl⟩)
set_option maxHeartbeats 400000 in
theorem bnext_ok {w0 : World} {base : Nat} {H : List Seg} {b : Nat} {y : Sl tyB 5} {m e lr : Int} {br : Bool} {off : Nat} (n : Nat) (hl : y.l.length ≤ 500000000) (ho : off + n ≤ y.l.length) :
    SCalls Tryz.prog 226 [.pointer (some ⟨b, 2, none⟩), .int .i64 (n : Int)] w0 base (y.s :: [(b, .cells #[.int .i64 m, .bool br, .slice y.A y.l.length y.C, .int .i64 (off : Int), .int .i8 lr, .int .i64 e] 125 (0, 0))] :: H) (fun v H' => ∃ A' C' lr', Own tyB 5 A' C' (subl y.l off (off + n)) y.s ∧ v = .slice A' (subl y.l off (off + n)).length C' ∧ H' = y.s :: [(b, .cells #[.int .i64 m, .bool br, .slice y.A y.l.length y.C, .int .i64 ((off : Int) + (n : Int)), .int .i8 (lr' : Int), .int .i64 e] 125 (0, 0))] :: H) := by
  refine SCalls.of_walk (n := 45) Tryz.func226 rfl rfl rfl fun cs => ?_
  refine At.seq ?_
  refine At.region ?_
  refine AtL.assign (.inl rfl) rfl rfl ?_
  refine AtL.done ?_
  refine At.seq ?_
  refine At.region ?_
  refine AtL.move (.inl rfl) rfl rfl ?_
  refine AtL.nilCheck (.inl rfl) rfl rfl ?_
  refine AtL.fieldAddrB tf_fo123_2 (.inl rfl) rfl rfl rfl ?_
  refine AtL.store (H' := y.s :: [(b, .cells #[.int .i64 m, .bool br, .slice y.A y.l.length y.C, .int .i64 (off : Int), .int .i8 0, .int .i64 e] 125 (0, 0))] :: H) 1 0 tf_sz121 (.inl rfl) rfl rfl rfl rfl rfl rfl rfl rfl rfl ?_
  refine AtL.done ?_
  refine At.seq ?_
  refine At.region ?_
  refine AtL.move (.inl rfl) rfl rfl ?_
  refine AtL.call tf_body225 (.inl rfl) rfl rfl (blen_ok (y := y) (off := off) (by omega) (by omega)) ?_
  rintro _ _ ⟨rfl, rfl⟩
  refine AtL.assign (.inl rfl) rfl rfl ?_
  refine AtL.done ?_
  refine At.seq ?_
  refine At.seq ?_
  refine At.region ?_
  refine AtL.move (.inl rfl) rfl rfl ?_
  refine AtL.move (.inl rfl) rfl rfl ?_
  refine AtL.gtr (.inl rfl) rfl rfl rfl ?_
  refine AtL.done ?_
  refine At.condIs false rfl (decide_eq_false (by omega)) ?_
  refine At.skip ?_
  refine At.seq ?_
  have hleo3 := Own.le_cap y.own
  obtain ⟨A1, eA1⟩ : ∃ A1 : Option Addr, A1 = (if y.C = off then y.A else Option.map (fun a => a.add (off * tyB.sz)) y.A) := ⟨_, rfl⟩
  obtain ⟨C2, eC2⟩ : ∃ C2 : Nat, C2 = y.C - off := ⟨_, rfl⟩
  have o3 : Own tyB 5 A1 C2 (subl y.l off (off + n)) y.s := by rw [eA1, eC2]; exact Own.cut y.own (by omega) (by omega) (by omega) (by omega)
  refine At.draw (es := []) (pv := [(0, .pointer (some ⟨b, 2, none⟩)), (1, .pointer (some ⟨b, 2, none⟩)), (2, .pointer (some ⟨b, 2, none⟩)), (3, .slice y.A y.l.length y.C), (4, .pointer (some ⟨b, 2, none⟩)), (5, .pointer (some ⟨b, 2, none⟩)), (6, .pointer (some ⟨b, 3, none⟩)), (7, .int .i64 (off : Int)), (8, .pointer (some ⟨b, 2, none⟩)), (9, .pointer (some ⟨b, 2, none⟩)), (10, .pointer (some ⟨b, 3, none⟩)), (11, .int .i64 (off : Int)), (12, .int .i64 (n : Int)), (13, .int .i64 ((off : Int) + (n : Int))), (14, .slice A1 (subl y.l off (off + n)).length C2), (15, .slice A1 (subl y.l off (off + n)).length C2)]) tf_mixed (by kernel_rfl) (by kernel_rfl) (by kernel_rfl) ?_
  refine ⟨⟨.inr ⟨_, rfl, rfl, .inl ⟨rfl, Do.move rfl⟩⟩, .inr ⟨_, rfl, rfl, .inl ⟨rfl, Do.nilCheck rfl⟩⟩, .inr ⟨_, rfl, rfl, .inl ⟨rfl, Do.fieldAddrB tf_fo123_0 rfl rfl⟩⟩, .inr ⟨_, rfl, rfl, .inl ⟨rfl, Do.load tf_flat34 rfl (Cell.own 1 0 rfl rfl rfl)⟩⟩, .inr ⟨_, rfl, rfl, .inl ⟨rfl, Do.move rfl⟩⟩, .inr ⟨_, rfl, rfl, .inl ⟨rfl, Do.nilCheck rfl⟩⟩, .inr ⟨_, rfl, rfl, .inl ⟨rfl, Do.fieldAddrB tf_fo123_1 rfl rfl⟩⟩, .inr ⟨_, rfl, rfl, .inl ⟨rfl, Do.load tf_flat3 rfl (Cell.own 1 0 rfl rfl rfl)⟩⟩, .inr ⟨_, rfl, rfl, .inl ⟨rfl, Do.move rfl⟩⟩, .inr ⟨_, rfl, rfl, .inl ⟨rfl, Do.nilCheck rfl⟩⟩, .inr ⟨_, rfl, rfl, .inl ⟨rfl, Do.fieldAddrB tf_fo123_1 rfl rfl⟩⟩, .inr ⟨_, rfl, rfl, .inl ⟨rfl, Do.load tf_flat3 rfl (Cell.own 1 0 rfl rfl rfl)⟩⟩, .inr ⟨_, rfl, rfl, .inl ⟨rfl, Do.move rfl⟩⟩, .inr ⟨_, rfl, rfl, .inl ⟨rfl, Do.add (z := (off : Int) + (n : Int)) rfl rfl (w64 (by omega) (by omega))⟩⟩, .inr ⟨_, rfl, rfl, .inl ⟨rfl, Do.sliceX_ (T := tyB) (l := y.l) off (off + n) y.C (evBound_some rfl rfl) (evBound_some rfl rfl) rfl (by intro h; cases h) (by omega) (by omega) (Nat.le_refl _) Tryz.underlying34 tf_sz5 rfl eA1 (subl_len (l := y.l) (i := off) (j := (off + n)) (by omega)) eC2⟩⟩, .inr ⟨_, rfl, rfl, .inl ⟨rfl, Do.assign rfl⟩⟩, trivial⟩, by kernel_rfl, ?_⟩
  refine At.mono (E' := [(0, .pointer (some ⟨b, 2, none⟩)), (1, .int .i64 (n : Int)), (6, .slice A1 (subl y.l off (off + n)).length C2)]) ⟨rfl, rfl, rfl, trivial⟩ ?_
  refine At.seq ?_
  refine At.region ?_
  refine AtL.move (.inl rfl) rfl rfl ?_
  refine AtL.nilCheck (.inl rfl) rfl rfl ?_
  refine AtL.fieldAddrB tf_fo123_1 (.inl rfl) rfl rfl rfl ?_
  refine AtL.load tf_flat3 (.inl rfl) rfl rfl (Cell.own 1 0 rfl rfl rfl) ?_
  refine AtL.move (.inl rfl) rfl rfl ?_
  refine AtL.add (z := (off : Int) + (n : Int)) (.inl rfl) rfl rfl rfl (w64 (by omega) (by omega)) ?_
  refine AtL.nilCheck (.inl rfl) rfl rfl ?_
  refine AtL.fieldAddrB tf_fo123_1 (.inl rfl) rfl rfl rfl ?_
  refine AtL.store (H' := y.s :: [(b, .cells #[.int .i64 m, .bool br, .slice y.A y.l.length y.C, .int .i64 ((off : Int) + (n : Int)), .int .i8 0, .int .i64 e] 125 (0, 0))] :: H) 1 0 tf_sz3 (.inl rfl) rfl rfl rfl rfl rfl rfl rfl rfl rfl ?_
  refine AtL.done ?_
  refine At.seq ?_
  refine At.seq ?_
  refine At.region ?_
  refine AtL.move (.inl rfl) rfl rfl ?_
  refine AtL.gtr (.inl rfl) rfl rfl rfl ?_
  refine AtL.done ?_
  refine At.cond rfl ?_ ?_
  · intro hc2
    have hc2 : 0 < (n : Int) := of_decide_eq_true hc2
    refine At.region ?_
    refine AtL.move (.inl rfl) rfl rfl ?_
    refine AtL.nilCheck (.inl rfl) rfl rfl ?_
    refine AtL.fieldAddrB tf_fo123_2 (.inl rfl) rfl rfl rfl ?_
    refine AtL.store (H' := y.s :: [(b, .cells #[.int .i64 m, .bool br, .slice y.A y.l.length y.C, .int .i64 ((off : Int) + (n : Int)), .int .i8 (-1), .int .i64 e] 125 (0, 0))] :: H) 1 0 tf_sz121 (.inl rfl) rfl rfl rfl rfl rfl rfl rfl rfl rfl ?_
    refine AtL.done ?_
    refine At.seq ?_
    refine At.region ?_
    refine AtL.move (.inl rfl) rfl rfl ?_
    refine AtL.assign (.inl rfl) rfl rfl ?_
    refine AtL.done ?_
    exact At.ret Tryz.func226 rfl rfl (⟨_, _, _, o3, rfl, rfl⟩)
  · intro hc2
    have hc2 : ¬ (0 < (n : Int)) := of_decide_eq_false hc2
    refine At.skip ?_
    refine At.seq ?_
    refine At.region ?_
    refine AtL.move (.inl rfl) rfl rfl ?_
    refine AtL.assign (.inl rfl) rfl rfl ?_
    refine AtL.done ?_
    exact At.ret Tryz.func226 rfl rfl (⟨_, _, _, o3, rfl, rfl⟩)
set_option maxHeartbeats 400000 in
theorem bclone_ok {w0 : World} {base : Nat} {H : List Seg} {A : Option Addr} {C : Nat} {l : List UInt8} (h : Rd tyB w0 base H A C l) (hl : l.length ≤ 140737488355000) :
    SCalls Tryz.prog 90 [.slice A l.length C] w0 base (H) (fun v H' => ∃ x : Sl tyB 5, x.l = l ∧ v = .slice x.A x.l.length x.C ∧ H' = x.s :: H) := by
  refine SCalls.of_walk (n := 8) Tryz.func90 rfl rfl rfl fun cs => ?_
  refine At.seq ?_
  refine At.region ?_
  refine AtL.assign (.inl rfl) rfl rfl ?_
  refine AtL.done ?_
  refine At.seq ?_
  refine At.seq ?_
  refine At.region ?_
  refine AtL.move (.inl rfl) rfl rfl ?_
  refine AtL.eqSliceNil Tryz.underlying34 (.inl rfl) rfl rfl rfl ?_
  refine AtL.done ?_
  refine At.cond rfl ?_ ?_
  · intro hc1
    have hc1 : A.isNone = true := hc1
    have hA : A = none := by simpa using hc1
    have hl0 : l = [] := List.eq_nil_of_length_eq_zero (by have := h.le; have := h.nil hA; omega)
    refine At.seq ?_
    refine At.region ?_
    refine AtL.assign (.inl rfl) rfl rfl ?_
    refine AtL.done ?_
    refine At.nil ?_
    exact At.ret Tryz.func90 rfl rfl (⟨Sl.nil, hl0.symm, rfl, rfl⟩)
  · intro hc1
    have hc1 : A.isNone = false := hc1
    refine At.skip ?_
    refine At.seq ?_
    refine At.region ?_
    refine AtL.buildSlice (cs := []) Tryz.underlying34 tf_zero5 tf_sz5 rfl rfl (.inl rfl) rfl rfl rfl ?_
    intro b1
    refine AtL.own1 tyB (l := ([] : List UInt8)) rfl rfl (by first | decide | simp) ?_
    intro s2 o3
    refine AtL.move (.inl rfl) rfl rfl ?_
    refine AtL.append (l := []) (news := l) 0 tf_el34 rfl o3 (Rd.skip 1 h) (by first | omega | (simp only [List.length_append, List.length_cons, List.length_nil]; omega) | (simp; done) | (simp; omega)) (.inl rfl) rfl rfl rfl ?_
    intro A4 C5 s6 o7
    refine AtL.assign (.inl rfl) rfl rfl ?_
    refine AtL.done ?_
    exact At.ret Tryz.func90 rfl rfl (⟨⟨A4, C5, [] ++ l, s6, o7⟩, rfl, rfl, rfl⟩)
end Go.Proofs.YtbfabhdfmoiabaaGreatDoor
namespace Go.Proofs.YtbfabhdfmoiabaaGreatDoor
set_option linter.unusedVariables false
set_option linter.unusedSimpArgs false
set_option maxRecDepth 100000
set_option maxHeartbeats 400000 in
theorem none_ok {w0 : World} {base : Nat} {H : List Seg} {b : Nat} {y : Sl tyB 5} {m e lr : Int} {br : Bool} {off : Nat} :
    SCalls Tryz.prog 217 [.pointer (some ⟨b, 0, none⟩)] w0 base ([(b, .cells #[.int .i64 m, .bool br, .slice y.A y.l.length y.C, .int .i64 (off : Int), .int .i8 lr, .int .i64 e] 125 (0, 0))] :: H) (fun v H' => v = .bool (decide (m = 0)) ∧ H' = [(b, .cells #[.int .i64 m, .bool br, .slice y.A y.l.length y.C, .int .i64 (off : Int), .int .i8 lr, .int .i64 e] 125 (0, 0))] :: H) := by
  refine SCalls.of_walk (n := 12) Tryz.func217 rfl rfl rfl fun cs => ?_
  refine At.seq ?_
  refine At.region ?_
  refine AtL.assign (.inl rfl) rfl rfl ?_
  refine AtL.done ?_
  refine At.seq ?_
  refine At.region ?_
  refine AtL.move (.inl rfl) rfl rfl ?_
  refine AtL.eqPtrNil Tryz.underlying103 (.inl rfl) rfl rfl rfl ?_
  refine AtL.move (.inl rfl) rfl rfl ?_
  refine AtL.move (.inr ⟨_, _, _, rfl, rfl, rfl, rfl⟩) rfl rfl ?_
  refine AtL.nilCheck (.inr ⟨_, _, _, rfl, rfl, rfl, rfl⟩) rfl rfl ?_
  refine AtL.fieldAddrB tf_fo125_0 (.inr ⟨_, _, _, rfl, rfl, rfl, rfl⟩) rfl rfl rfl ?_
  refine AtL.load tf_flat3 (.inr ⟨_, _, _, rfl, rfl, rfl, rfl⟩) rfl rfl (Cell.own 0 0 rfl rfl rfl) ?_
  refine AtL.eqi (.inr ⟨_, _, _, rfl, rfl, rfl, rfl⟩) rfl rfl rfl ?_
  refine AtL.pickF (.inl rfl) rfl rfl rfl ?_
  refine AtL.assign (.inl rfl) rfl rfl ?_
  refine AtL.done ?_
  exact At.ret Tryz.func217 rfl rfl (⟨rfl, rfl⟩)
def szF (c : List UInt8) : Nat := 256 * (c.getD 0 0).toNat + (c.getD 1 0).toNat
theorem subl_from_len {c : List UInt8} {i : Nat} (h : i ≤ c.length) : (subl c i c.length).length = c.length - i := subl_len (Nat.le_refl _)
structure FrS where
  e : Int
  n : Nat
def frS (most : Int) (c : List UInt8) : FrS :=
  if c.length < 2 then ⟨0, 0⟩ else if szF c < 12 then ⟨4, 0⟩ else if most < (szF c : Int) then ⟨3, 0⟩ else if c.length < szF c + 2 then ⟨0, 0⟩ else ⟨0, szF c⟩
theorem frS_n (most : Int) (c : List UInt8) : ((frS most c).n ≠ 0 → (frS most c).e = 0 ∧ 12 ≤ (frS most c).n ∧ (frS most c).n + 2 ≤ c.length ∧ (frS most c).n = szF c) := by
  unfold frS
  repeat' split
  all_goals simp
  all_goals omega
structure FrR where
  out : List (List UInt8)
  e : Int
  rest : List UInt8
def frF (most : Int) (c : List UInt8) : FrR :=
  if (frS most c).e ≠ 0 then ⟨[], (frS most c).e, []⟩
  else if hn : (frS most c).n = 0 then ⟨[], 0, c⟩
  else ⟨subl c 2 (2 + (frS most c).n) :: (frF most (c.drop (2 + (frS most c).n))).out, (frF most (c.drop (2 + (frS most c).n))).e, (frF most (c.drop (2 + (frS most c).n))).rest⟩
termination_by c.length
decreasing_by all_goals (have := frS_n most c hn; simp; omega)
theorem frF_err {most : Int} {c : List UInt8} (h : (frS most c).e ≠ 0) : frF most c = ⟨[], (frS most c).e, []⟩ := by rw [frF, if_pos h]
theorem frF_none {most : Int} {c : List UInt8} (h : (frS most c).e = 0) (hn : (frS most c).n = 0) : frF most c = ⟨[], 0, c⟩ := by rw [frF, if_neg (by omega), dif_pos hn]
theorem frF_more {most : Int} {c : List UInt8} (hn : (frS most c).n ≠ 0) : frF most c = ⟨subl c 2 (2 + (frS most c).n) :: (frF most (c.drop (2 + (frS most c).n))).out, (frF most (c.drop (2 + (frS most c).n))).e, (frF most (c.drop (2 + (frS most c).n))).rest⟩ := by
  have := frS_n most c hn
  conv => lhs; rw [frF, if_neg (by omega), dif_neg hn]
theorem szF_le (c : List UInt8) : szF c ≤ 65535 := by
  unfold szF
  have := (c.getD 0 0).toNat_lt
  have := (c.getD 1 0).toNat_lt
  omega
set_option maxHeartbeats 400000 in
theorem fr_size_ok {w0 : World} {base : Nat} {H : List Seg} {b : Nat} {y : Sl tyB 5} {m e lr : Int} {br : Bool} {off : Nat} (hl : y.l.length ≤ 500000000) (ho : off ≤ y.l.length) :
    SCalls Tryz.prog 224 [.pointer (some ⟨b, 0, none⟩)] w0 base (y.s :: [(b, .cells #[.int .i64 m, .bool br, .slice y.A y.l.length y.C, .int .i64 (off : Int), .int .i8 lr, .int .i64 e] 125 (0, 0))] :: H) (fun v H' => v = .tuple #[int (if 2 ≤ (y.l.drop off).length then (szF (y.l.drop off) : Int) else 0), .bool (if 2 ≤ (y.l.drop off).length then true else false)] ∧ H' = y.s :: [(b, .cells #[.int .i64 m, .bool br, .slice y.A y.l.length y.C, .int .i64 (off : Int), .int .i8 lr, .int .i64 e] 125 (0, 0))] :: H) := by
  refine SCalls.of_walk (n := 22) Tryz.func224 rfl rfl rfl fun cs => ?_
  refine At.seq ?_
  refine At.region ?_
  refine AtL.assign (.inl rfl) rfl rfl ?_
  refine AtL.assign (.inl rfl) rfl rfl ?_
  refine AtL.done ?_
  refine At.seq ?_
  refine At.region ?_
  refine AtL.move (.inl rfl) rfl rfl ?_
  refine AtL.nilCheck (.inl rfl) rfl rfl ?_
  refine AtL.fieldAddrB tf_fo125_2 (.inl rfl) rfl rfl rfl ?_
  refine AtL.call tf_body228 (.inl rfl) rfl rfl (bbytes_ok (y := y) (off := off) (by first | omega | (dsimp only; omega)) (by first | omega | (dsimp only; omega))) ?_
  rintro _ _ ⟨A1, C2, o3, rfl, rfl⟩
  refine AtL.assign (.inl rfl) rfl rfl ?_
  refine AtL.done ?_
  have hlen := subl_from_len ho
  refine At.seq ?_
  refine At.seq ?_
  refine At.region ?_
  refine AtL.move (.inl rfl) rfl rfl ?_
  refine AtL.lenL Tryz.underlying34 (.inl rfl) rfl rfl ?_
  refine AtL.lss (.inl rfl) rfl rfl rfl ?_
  refine AtL.done ?_
  refine At.cond rfl ?_ ?_
  · intro hc1
    have hc1 : ((subl y.l off y.l.length).length : Int) < 2 := of_decide_eq_true hc1
    refine At.seq ?_
    refine At.region ?_
    refine AtL.assign (.inl rfl) rfl rfl ?_
    refine AtL.assign (.inl rfl) rfl rfl ?_
    refine AtL.done ?_
    have hc0 : subl y.l off y.l.length = y.l.drop off := subl_from _ _
    have hlen : (y.l.drop off).length = y.l.length - off := List.length_drop
    exact At.ret Tryz.func224 rfl rfl (⟨by rw [if_neg (show ¬ 2 ≤ (y.l.drop off).length by omega), if_neg (by omega)]; rfl, rfl⟩)
  · intro hc1
    have hc1 : ¬ (((subl y.l off y.l.length).length : Int) < 2) := of_decide_eq_false hc1
    refine At.skip ?_
    refine At.seq ?_
    have hB4 := u8_le (((subl y.l off y.l.length).getD 0 0))
    have hB5 := u8_le (((subl y.l off y.l.length).getD 1 0))
    refine At.draw (es := []) (pv := [(0, .slice A1 (subl y.l off y.l.length).length C2), (1, .pointer (some (eaddr A1 (0 * tyB.sz)))), (2, .int .u8 (((subl y.l off y.l.length).getD 0 0).toNat : Int)), (3, .int .i64 (((subl y.l off y.l.length).getD 0 0).toNat : Int)), (4, .int .i64 ((((subl y.l off y.l.length).getD 0 0).toNat : Int) * 256)), (5, .slice A1 (subl y.l off y.l.length).length C2), (6, .pointer (some (eaddr A1 (1 * tyB.sz)))), (7, .int .u8 (((subl y.l off y.l.length).getD 1 0).toNat : Int)), (8, .int .i64 (((subl y.l off y.l.length).getD 1 0).toNat : Int)), (9, .int .i64 (((((subl y.l off y.l.length).getD 0 0).toNat : Int) * 256) + (((subl y.l off y.l.length).getD 1 0).toNat : Int))), (10, .int .i64 (((((subl y.l off y.l.length).getD 0 0).toNat : Int) * 256) + (((subl y.l off y.l.length).getD 1 0).toNat : Int))), (11, .bool true)]) tf_mixed (by kernel_rfl) (by kernel_rfl) (by kernel_rfl) ?_
    refine ⟨⟨.inr ⟨_, rfl, rfl, .inl ⟨rfl, Do.move rfl⟩⟩, .inr ⟨_, rfl, rfl, .inl ⟨rfl, Do.indexL 0 (o3.rd (i := 0) rfl) Tryz.underlying34 tf_sz5 rfl rfl rfl (by omega)⟩⟩, .inr ⟨_, rfl, rfl, .inl ⟨rfl, Do.load (v := .int .u8 (((subl y.l off y.l.length).getD 0 0).toNat : Int)) tf_flat5 rfl (Rd.cell0 (o3.rd (i := 0) rfl) (getD_some 0 (by omega)) rfl)⟩⟩, .inr ⟨_, rfl, rfl, .inl ⟨rfl, Do.convInt (z := (((subl y.l off y.l.length).getD 0 0).toNat : Int)) Tryz.underlying5 Tryz.underlying3 rfl (u8_i64 _)⟩⟩, .inr ⟨_, rfl, rfl, .inl ⟨rfl, Do.shl (z := (((subl y.l off y.l.length).getD 0 0).toNat : Int) * 256) rfl rfl (by omega) (shl_eq _ _ 8 rfl (by decide) _ (by decide) (by omega) (by omega))⟩⟩, .inr ⟨_, rfl, rfl, .inl ⟨rfl, Do.move rfl⟩⟩, .inr ⟨_, rfl, rfl, .inl ⟨rfl, Do.indexL 1 (o3.rd (i := 0) rfl) Tryz.underlying34 tf_sz5 rfl rfl rfl (by omega)⟩⟩, .inr ⟨_, rfl, rfl, .inl ⟨rfl, Do.load (v := .int .u8 (((subl y.l off y.l.length).getD 1 0).toNat : Int)) tf_flat5 rfl (Rd.cell0 (o3.rd (i := 0) rfl) (getD_some 0 (by omega)) rfl)⟩⟩, .inr ⟨_, rfl, rfl, .inl ⟨rfl, Do.convInt (z := (((subl y.l off y.l.length).getD 1 0).toNat : Int)) Tryz.underlying5 Tryz.underlying3 rfl (u8_i64 _)⟩⟩, .inr ⟨_, rfl, rfl, .inl ⟨rfl, Do.bor (z := ((((subl y.l off y.l.length).getD 0 0).toNat : Int) * 256) + (((subl y.l off y.l.length).getD 1 0).toNat : Int)) rfl rfl (or_add 8 (Int.toNat (((subl y.l off y.l.length).getD 0 0).toNat : Int)) _ (by omega) rfl (by omega) (by omega))⟩⟩, .inr ⟨_, rfl, rfl, .inl ⟨rfl, Do.assign rfl⟩⟩, .inr ⟨_, rfl, rfl, .inl ⟨rfl, Do.assign rfl⟩⟩, trivial⟩, by kernel_rfl, ?_⟩
    refine At.mono (E' := [(2, .int .i64 (((((subl y.l off y.l.length).getD 0 0).toNat : Int) * 256) + (((subl y.l off y.l.length).getD 1 0).toNat : Int))), (3, .bool true)]) ⟨rfl, rfl, trivial⟩ ?_
    have hc0 : subl y.l off y.l.length = y.l.drop off := subl_from _ _
    have hlen : (y.l.drop off).length = y.l.length - off := List.length_drop
    exact At.ret Tryz.func224 rfl rfl (⟨by rw [if_pos (show 2 ≤ (y.l.drop off).length by omega), if_pos (show 2 ≤ (y.l.drop off).length by omega), ← hc0]; exact congrArg (fun z => Value.tuple #[int z, .bool true]) (by unfold szF; omega), rfl⟩)
end Go.Proofs.YtbfabhdfmoiabaaGreatDoor
namespace Go.Proofs.YtbfabhdfmoiabaaGreatDoor
set_option linter.unusedVariables false
set_option linter.unusedSimpArgs false
set_option maxRecDepth 100000
def frmE (l : List UInt8) : Int := if l.length < 12 then 4 else if 65535 < l.length then 3 else 0
def frmL (l : List UInt8) : List UInt8 := if frmE l = 0 then [UInt8.ofInt ((l.length : Int) / 256), UInt8.ofInt (l.length : Int)] ++ l else []
theorem fr_ofInt_mod (a : Int) : UInt8.ofInt (a % 256) = UInt8.ofInt a := by
  apply UInt8.toNat_inj.1
  rw [ofInt_toNat, ofInt_toNat, Int.emod_emod_of_dvd _ (Int.dvd_refl _)]
theorem frmE_le (l : List UInt8) : frmE l = 0 → 12 ≤ l.length ∧ l.length ≤ 65535 := by
  unfold frmE
  repeat' split
  all_goals omega
theorem frmL_len (l : List UInt8) : (frmL l).length ≤ l.length + 2 := by
  unfold frmL
  split <;> simp
set_option maxHeartbeats 400000 in
theorem put_ok {w0 : World} {base : Nat} {H : List Seg} {A : Option Addr} {C : Nat} {l : List UInt8} (h : Rd tyB w0 base H A C l) (hl : l.length ≤ 1000000) :
    SCalls Tryz.prog 236 [.slice A l.length C] w0 base (H) (fun v H' => ∃ x : Sl tyB 5, x.l = frmL l ∧ v = .tuple #[.slice x.A x.l.length x.C, int (frmE l)] ∧ H' = x.s :: H) := by
  refine SCalls.of_walk (n := 22) Tryz.func236 rfl rfl rfl fun cs => ?_
  refine At.seq ?_
  refine At.region ?_
  refine AtL.assign (.inl rfl) rfl rfl ?_
  refine AtL.assign (.inl rfl) rfl rfl ?_
  refine AtL.done ?_
  refine At.seq ?_
  refine At.block ?_
  refine At.seq ?_
  refine At.region ?_
  refine AtL.move (.inl rfl) rfl rfl ?_
  refine AtL.lenL Tryz.underlying34 (.inl rfl) rfl rfl ?_
  refine AtL.lss (.inl rfl) rfl rfl rfl ?_
  refine AtL.assign (.inl rfl) rfl rfl ?_
  refine AtL.done ?_
  refine At.cond rfl ?_ ?_
  · intro hc1
    have hc1 : (l.length : Int) < 12 := of_decide_eq_true hc1
    refine At.seq ?_
    refine At.region ?_
    refine AtL.assign (.inl rfl) rfl rfl ?_
    refine AtL.assign (.inl rfl) rfl rfl ?_
    refine AtL.done ?_
    refine At.nil ?_
    have hE : frmE l = 4 := by rw [frmE, if_pos (by omega)]
    exact At.ret Tryz.func236 rfl rfl (⟨Sl.nil, by rw [frmL, hE]; first | rfl | (simp [fr_ofInt_mod]), by rw [hE]; rfl, rfl⟩)
  · intro hc1
    have hc1 : ¬ ((l.length : Int) < 12) := of_decide_eq_false hc1
    refine At.seq ?_
    refine At.region ?_
    refine AtL.move (.inl rfl) rfl rfl ?_
    refine AtL.lenL Tryz.underlying34 (.inl rfl) rfl rfl ?_
    refine AtL.gtr (.inl rfl) rfl rfl rfl ?_
    refine AtL.assign (.inl rfl) rfl rfl ?_
    refine AtL.done ?_
    refine At.cond rfl ?_ ?_
    · intro hc2
      have hc2 : 65535 < (l.length : Int) := of_decide_eq_true hc2
      refine At.seq ?_
      refine At.region ?_
      refine AtL.assign (.inl rfl) rfl rfl ?_
      refine AtL.assign (.inl rfl) rfl rfl ?_
      refine AtL.done ?_
      refine At.nil ?_
      have hE : frmE l = 3 := by rw [frmE, if_neg (by omega), if_pos (by omega)]
      exact At.ret Tryz.func236 rfl rfl (⟨Sl.nil, by rw [frmL, hE]; first | rfl | (simp [fr_ofInt_mod]), by rw [hE]; rfl, rfl⟩)
    · intro hc2
      have hc2 : ¬ (65535 < (l.length : Int)) := of_decide_eq_false hc2
      refine At.skip ?_
      refine At.inBlock ?_
      refine At.seq ?_
      refine At.region ?_
      refine AtL.move (.inl rfl) rfl rfl ?_
      refine AtL.lenL Tryz.underlying34 (.inl rfl) rfl rfl ?_
      refine AtL.shr (z := (l.length : Int) / 256) (.inl rfl) rfl rfl rfl (by omega) (shr_eq _ _ 8 rfl (by decide) _ (by decide)) ?_
      refine AtL.convInt (z := ((UInt8.ofInt ((l.length : Int) / 256)).toNat : Int)) Tryz.underlying3 Tryz.underlying5 (.inl rfl) rfl rfl (u8_conv _) ?_
      refine AtL.move (.inl rfl) rfl rfl ?_
      refine AtL.lenL Tryz.underlying34 (.inl rfl) rfl rfl ?_
      refine AtL.convInt (z := ((UInt8.ofInt (l.length : Int)).toNat : Int)) Tryz.underlying3 Tryz.underlying5 (.inl rfl) rfl rfl (u8_conv _) ?_
      refine AtL.buildSlice (cs := [.int .u8 ((UInt8.ofInt ((l.length : Int) / 256)).toNat : Int), .int .u8 ((UInt8.ofInt (l.length : Int)).toNat : Int)]) Tryz.underlying34 tf_zero5 tf_sz5 rfl rfl (.inl rfl) rfl rfl rfl ?_
      intro b1
      refine AtL.own1 tyB (l := ([(UInt8.ofInt ((l.length : Int) / 256)), (UInt8.ofInt (l.length : Int))] : List UInt8)) rfl rfl (by first | decide | simp) ?_
      intro s2 o3
      refine AtL.move (.inl rfl) rfl rfl ?_
      refine AtL.append (l := [(UInt8.ofInt ((l.length : Int) / 256)), (UInt8.ofInt (l.length : Int))]) (news := l) 0 tf_el34 rfl o3 (Rd.skip 1 h) (by first | omega | (simp only [List.length_append, List.length_cons, List.length_nil]; omega) | (simp; done) | (simp; omega)) (.inl rfl) rfl rfl rfl ?_
      intro A4 C5 s6 o7
      refine AtL.assign (.inl rfl) rfl rfl ?_
      refine AtL.assign (.inl rfl) rfl rfl ?_
      refine AtL.done ?_
      have hE : frmE l = 0 := by rw [frmE, if_neg (by omega), if_neg (by omega)]
      exact At.ret Tryz.func236 rfl rfl (⟨⟨A4, C5, [(UInt8.ofInt ((l.length : Int) / 256)), (UInt8.ofInt (l.length : Int))] ++ l, s6, o7⟩, by rw [frmL, hE]; first | rfl | (simp [fr_ofInt_mod]), by rw [hE]; rfl, rfl⟩)
set_option maxHeartbeats 400000 in
theorem new_ok {w0 : World} {base : Nat} {H : List Seg} (m : Int) (hm : ¬ (m < 12 ∨ 65535 < m)) :
    SCalls Tryz.prog 41 [.int .i64 m] w0 base (H) (fun v H' => ∃ b : Nat, v = .tuple #[.pointer (some ⟨b, 0, none⟩), int 0] ∧ H' = [(b, .cells #[.int .i64 m, .bool false, .slice none 0 0, .int .i64 0, .int .i8 0, .int .i64 0] 125 (0, 0))] :: H) := by
  refine SCalls.of_walk (n := 13) Tryz.func41 rfl rfl rfl fun cs => ?_
  refine At.seq ?_
  refine At.region ?_
  refine AtL.assign (.inl rfl) rfl rfl ?_
  refine AtL.assign (.inl rfl) rfl rfl ?_
  refine AtL.done ?_
  refine At.seq ?_
  refine At.seq ?_
  refine At.region ?_
  refine AtL.move (.inl rfl) rfl rfl ?_
  refine AtL.lss (.inl rfl) rfl rfl rfl ?_
  refine AtL.move (.inl rfl) rfl rfl ?_
  refine AtL.join 3 (E' := [(9, .bool (decide (((m : Int) < 12) ∨ (65535 < (m : Int))))), (0, .int .i64 m)]) (H' := H) (fun J => ?_) ?_
  · refine AtL.split (t := 6) rfl ?_ ?_
    · intro hs6
      have hs6 : (m : Int) < 12 := of_decide_eq_true hs6
      refine AtL.skipped rfl rfl rfl rfl rfl rfl ?_
      refine AtL.skipped rfl rfl rfl rfl rfl rfl ?_
      refine AtL.pickT (.inl rfl) rfl rfl rfl ?_
      exact J _ (by exact ⟨(boolIs (by clear J; first | (simp [hs6]; done) | (simp_all; done) | grind)), rfl, trivial⟩)
    · intro hs6
      have hs6 : ¬ ((m : Int) < 12) := of_decide_eq_false hs6
      refine AtL.move (.inr ⟨_, _, _, rfl, rfl, rfl, rfl⟩) rfl rfl ?_
      refine AtL.gtr (.inr ⟨_, _, _, rfl, rfl, rfl, rfl⟩) rfl rfl rfl ?_
      refine AtL.pickF (.inl rfl) rfl rfl rfl ?_
      exact J _ (by exact ⟨(boolIs (by clear J; first | (simp [hs6]; done) | (simp_all; done) | grind)), rfl, trivial⟩)
  · skip
    refine AtL.done ?_
    refine At.condIs false rfl (decide_eq_false hm) ?_
    refine At.skip ?_
    refine At.seq ?_
    refine At.region ?_
    refine AtL.move (.inl rfl) rfl rfl ?_
    refine AtL.build (cs := [.int .i64 m, .bool false, .slice none 0 0, .int .i64 0, .int .i8 0, .int .i64 0]) tf_lay125 (.inl rfl) rfl rfl rfl ?_
    refine AtL.box (cs := #[.int .i64 m, .bool false, .slice none 0 0, .int .i64 0, .int .i8 0, .int .i64 0]) rfl (.inl rfl) rfl rfl ?_
    intro b1
    refine AtL.assign (.inl rfl) rfl rfl ?_
    refine AtL.assign (.inl rfl) rfl rfl ?_
    refine AtL.done ?_
    exact At.ret Tryz.func41 rfl rfl (⟨_, rfl, rfl⟩)
def frP (br : Bool) (m : Int) (k l : List UInt8) : FrR := if br = true then ⟨[], 9, k⟩ else frF m (k ++ l)
def frB (br : Bool) (m : Int) (k l : List UInt8) : Bool := if br = true then true else decide ((frF m (k ++ l)).e ≠ 0)
theorem frB_e {br : Bool} {m e : Int} {k l : List UInt8} (he : br = false → e = 0) (h : frB br m k l = false) : (if br = true then e else (frF m (k ++ l)).e) = 0 := by
  unfold frB at h
  split at h
  · cases h
  · rename_i h2
    rw [if_neg h2]
    simpa using h
theorem frF_rest (m : Int) (c : List UInt8) : (frF m c).e ≠ 0 → (frF m c).rest = [] := by
  induction c using (measure List.length).wf.induction with
  | _ c ih =>
    by_cases h : (frS m c).e = 0
    · by_cases hn : (frS m c).n = 0
      · rw [frF_none h hn]; simp
      · have := frS_n m c hn
        rw [frF_more hn]
        exact ih _ (show (List.drop _ _).length < _ by simp; omega)
    · rw [frF_err h]; simp
end Go.Proofs.YtbfabhdfmoiabaaGreatDoor
namespace Go.Proofs.YtbfabhdfmoiabaaGreatDoor
set_option linter.unusedVariables false
set_option linter.unusedSimpArgs false
set_option maxRecDepth 100000
set_option maxHeartbeats 400000 in
theorem whole_ok {w0 : World} {base : Nat} {H : List Seg} {b : Nat} :
    SCalls Tryz.prog 219 [.pointer (some ⟨b, 0, none⟩)] w0 base (H) (fun v H' => ∃ vr : Nat, v = .func (.func 223) #[] #[.pointer (some ⟨vr, 0, none⟩)] ∧ H' = [(vr, .cells #[.pointer (some ⟨b, 0, none⟩)] 103 (0, 0))] :: H) := by
  refine SCalls.of_walk (n := 4) Tryz.func219 rfl rfl rfl fun cs => ?_
  refine At.seq ?_
  refine At.region ?_
  refine AtL.box (cs := #[.pointer (some ⟨b, 0, none⟩)]) rfl (.inl rfl) rfl rfl ?_
  intro b1
  refine AtL.assign (.inl rfl) rfl rfl ?_
  refine AtL.done ?_
  refine At.seq ?_
  refine At.region ?_
  refine AtL.makeFunc (.inl rfl) rfl rfl rfl ?_
  refine AtL.assign (.inl rfl) rfl rfl ?_
  refine AtL.done ?_
  exact At.ret Tryz.func219 rfl rfl (⟨_, rfl, rfl⟩)
theorem size2_ok {w0 : World} {base : Nat} {H : List Seg} {b : Nat} {y : Sl tyB 5} {m e lr : Int} {br : Bool} {off : Nat} (hl : y.l.length ≤ 500000000) (ho : off ≤ y.l.length) :
    SCalls Tryz.prog 224 [.pointer (some ⟨b, 0, none⟩)] w0 base (y.s :: [(b, .cells #[.int .i64 m, .bool br, .slice y.A y.l.length y.C, .int .i64 (off : Int), .int .i8 lr, .int .i64 e] 125 (0, 0))] :: H) (fun v H' => ∃ (n : Nat) (z : Bool), (z = true → n = szF (y.l.drop off) ∧ 2 ≤ (y.l.drop off).length) ∧ (z = false → (y.l.drop off).length < 2) ∧ v = .tuple #[int (n : Int), .bool z] ∧ H' = y.s :: [(b, .cells #[.int .i64 m, .bool br, .slice y.A y.l.length y.C, .int .i64 (off : Int), .int .i8 lr, .int .i64 e] 125 (0, 0))] :: H) := by
  refine (fr_size_ok hl ho).mono fun v H' h => ?_
  by_cases h2 : 2 ≤ (y.l.drop off).length
  · rw [if_pos h2, if_pos h2] at h
    exact ⟨_, true, fun _ => ⟨rfl, h2⟩, (fun h => by cases h), h⟩
  · rw [if_neg h2, if_neg h2] at h
    exact ⟨0, false, (fun h => by cases h), fun _ => by omega, h⟩
theorem subl_cut (l : List UInt8) (off n : Nat) : subl l (off + 2) (off + 2 + n) = subl (l.drop off) 2 (2 + n) := by
  simp only [subl, List.drop_drop]
  congr 1
  omega
set_option maxHeartbeats 1000000 in
theorem wholeit_ok {w0 : World} {base : Nat} {T Hc : List Seg} {lp b vr off : Nat} {y : Sl tyB 5} {m lr : Int} {J : List UInt8 → List Seg → Prop} (hl : y.l.length ≤ 400000000) (ho : off ≤ y.l.length) (hm : 12 ≤ m ∧ m ≤ 65535)
    (hY : ∀ c Hc, (frS m c).n ≠ 0 → J c Hc → ∀ (z : Sl tyB 5), z.l = subl c 2 (2 + (frS m c).n) → ∀ T', YCalls Tryz.prog lp [.slice z.A z.l.length z.C] w0 base (z.s :: (Hc ++ T')) (fun v H' => v = .bool true ∧ ∃ Hc', H' = Hc' ++ T' ∧ J (c.drop (2 + (frS m c).n)) Hc'))
    (h0 : J (y.l.drop off) Hc) :
    SCalls Tryz.prog 223 [.func (.yield lp) #[] #[], .pointer (some ⟨vr, 0, none⟩)] w0 base ([(vr, .cells #[.pointer (some ⟨b, 0, none⟩)] 103 (0, 0))] :: y.s :: [(b, .cells #[.int .i64 m, .bool false, .slice y.A y.l.length y.C, .int .i64 (off : Int), .int .i8 lr, .int .i64 0] 125 (0, 0))] :: (Hc ++ T)) (fun v H' => ∃ (off' : Nat) (lr' : Int) (Hc' : List Seg), off' ≤ y.l.length ∧ (frS m (y.l.drop off')).n = 0 ∧ J (y.l.drop off') Hc' ∧ v = .tuple #[] ∧ H' = [(vr, .cells #[.pointer (some ⟨b, 0, none⟩)] 103 (0, 0))] :: y.s :: [(b, .cells #[.int .i64 m, .bool false, .slice y.A y.l.length y.C, .int .i64 (off' : Int), .int .i8 lr', .int .i64 ((frS m (y.l.drop off')).e)] 125 (0, 0))] :: (Hc' ++ T)) := by
  refine SCalls.of_walk (n := 49) Tryz.func223 rfl rfl rfl fun cs => ?_
  refine At.block ?_
  refine At.loop3 (fun (off : Nat) (lr : Int) (Hc2 : List Seg) => [(0, .func (.yield lp) #[] #[]), (1, .pointer (some ⟨vr, 0, none⟩))]) (fun (off : Nat) (lr : Int) (Hc2 : List Seg) => [(vr, .cells #[.pointer (some ⟨b, 0, none⟩)] 103 (0, 0))] :: y.s :: [(b, .cells #[.int .i64 m, .bool false, .slice y.A y.l.length y.C, .int .i64 (off : Int), .int .i8 lr, .int .i64 0] 125 (0, 0))] :: (Hc2 ++ T)) (fun (off : Nat) (lr : Int) (Hc2 : List Seg) => J (y.l.drop off) Hc2 ∧ off ≤ y.l.length) (fun (off : Nat) (lr : Int) (Hc2 : List Seg) => y.l.length - off) off lr Hc (⟨h0, ho⟩) ⟨rfl, rfl, trivial⟩ rfl ?_
  rintro off lr Hc2 ⟨hJ, hoff⟩ ihL1
  have hszl := szF_le (y.l.drop off)
  have hld := List.length_drop (l := y.l) (i := off)
  refine At.block ?_
  refine At.seq ?_
  refine At.region ?_
  refine AtL.load tf_flat103 (.inl rfl) rfl rfl (Cell.own 0 0 rfl rfl rfl) ?_
  refine AtL.pick (H' := y.s :: [(b, .cells #[.int .i64 m, .bool false, .slice y.A y.l.length y.C, .int .i64 (off : Int), .int .i8 lr, .int .i64 0] 125 (0, 0))] :: [(vr, .cells #[.pointer (some ⟨b, 0, none⟩)] 103 (0, 0))] :: (Hc2 ++ T)) [1, 2, 0] 3 rfl rfl ?_
  refine AtL.call tf_body224 (.inl rfl) rfl rfl (size2_ok (y := y) (off := off) (by first | omega | (dsimp only; omega)) (by first | omega | (dsimp only; omega))) ?_
  rintro _ _ ⟨n1, z2, h3, h4, rfl, rfl⟩
  have hs1 := h3
  have hs2 := h4
  refine AtL.move (.inl rfl) rfl rfl ?_
  refine AtL.extract (.inl rfl) rfl rfl rfl ?_
  refine AtL.extract (.inl rfl) rfl rfl rfl ?_
  refine AtL.assign (.inl rfl) rfl rfl ?_
  refine AtL.assign (.inl rfl) rfl rfl ?_
  refine AtL.done ?_
  refine At.seq ?_
  refine At.seq ?_
  refine At.region ?_
  refine AtL.move (.inl rfl) rfl rfl ?_
  refine AtL.not (.inl rfl) rfl rfl ?_
  refine AtL.done ?_
  refine At.cond rfl ?_ ?_
  · intro hc1
    have hc1 : z2 = false := bnot_true hc1
    refine At.pick (H' := [(vr, .cells #[.pointer (some ⟨b, 0, none⟩)] 103 (0, 0))] :: y.s :: [(b, .cells #[.int .i64 m, .bool false, .slice y.A y.l.length y.C, .int .i64 (off : Int), .int .i8 lr, .int .i64 0] 125 (0, 0))] :: (Hc2 ++ T)) [2, 0, 1] 3 rfl rfl ?_
    have hS : frS m (y.l.drop off) = ⟨0, 0⟩ := by rw [frS, if_pos (hs2 hc1)]
    exact At.ret Tryz.func223 rfl rfl (⟨off, lr, Hc2, hoff, by rw [hS], hJ, rfl, by rw [hS]⟩)
  · intro hc1
    have hc1 : z2 = true := bnot_false hc1
    obtain ⟨hn9, h2⟩ := hs1 hc1
    subst hn9
    refine At.skip ?_
    refine At.seq ?_
    refine At.block ?_
    refine At.seq ?_
    refine At.region ?_
    refine AtL.move (.inl rfl) rfl rfl ?_
    refine AtL.lss (.inl rfl) rfl rfl rfl ?_
    refine AtL.assign (.inl rfl) rfl rfl ?_
    refine AtL.done ?_
    refine At.cond rfl ?_ ?_
    · intro hc2
      have hc2 : (szF (y.l.drop off) : Int) < 12 := of_decide_eq_true hc2
      refine At.seq ?_
      refine At.region ?_
      refine AtL.load tf_flat103 (.inl rfl) rfl rfl (Cell.own 2 0 rfl rfl rfl) ?_
      refine AtL.nilCheck (.inl rfl) rfl rfl ?_
      refine AtL.fieldAddrB tf_fo125_3 (.inl rfl) rfl rfl rfl ?_
      refine AtL.store (H' := y.s :: [(b, .cells #[.int .i64 m, .bool false, .slice y.A y.l.length y.C, .int .i64 (off : Int), .int .i8 lr, .int .i64 4] 125 (0, 0))] :: [(vr, .cells #[.pointer (some ⟨b, 0, none⟩)] 103 (0, 0))] :: (Hc2 ++ T)) 1 0 tf_sz26 (.inl rfl) rfl rfl rfl rfl rfl rfl rfl rfl rfl ?_
      refine AtL.done ?_
      refine At.pick (H' := [(vr, .cells #[.pointer (some ⟨b, 0, none⟩)] 103 (0, 0))] :: y.s :: [(b, .cells #[.int .i64 m, .bool false, .slice y.A y.l.length y.C, .int .i64 (off : Int), .int .i8 lr, .int .i64 4] 125 (0, 0))] :: (Hc2 ++ T)) [2, 0, 1] 3 rfl rfl ?_
      have hS : frS m (y.l.drop off) = ⟨4, 0⟩ := by rw [frS, if_neg (by omega), if_pos (by omega)]
      exact At.ret Tryz.func223 rfl rfl (⟨off, lr, Hc2, hoff, by rw [hS], hJ, rfl, by rw [hS]⟩)
    · intro hc2
      have hc2 : ¬ ((szF (y.l.drop off) : Int) < 12) := of_decide_eq_false hc2
      refine At.seq ?_
      refine At.region ?_
      refine AtL.move (.inl rfl) rfl rfl ?_
      refine AtL.load tf_flat103 (.inl rfl) rfl rfl (Cell.own 2 0 rfl rfl rfl) ?_
      refine AtL.nilCheck (.inl rfl) rfl rfl ?_
      refine AtL.fieldAddrB tf_fo125_0 (.inl rfl) rfl rfl rfl ?_
      refine AtL.load tf_flat3 (.inl rfl) rfl rfl (Cell.own 1 0 rfl rfl rfl) ?_
      refine AtL.gtr (.inl rfl) rfl rfl rfl ?_
      refine AtL.assign (.inl rfl) rfl rfl ?_
      refine AtL.done ?_
      refine At.cond rfl ?_ ?_
      · intro hc3
        have hc3 : m < (szF (y.l.drop off) : Int) := of_decide_eq_true hc3
        refine At.seq ?_
        refine At.region ?_
        refine AtL.load tf_flat103 (.inl rfl) rfl rfl (Cell.own 2 0 rfl rfl rfl) ?_
        refine AtL.nilCheck (.inl rfl) rfl rfl ?_
        refine AtL.fieldAddrB tf_fo125_3 (.inl rfl) rfl rfl rfl ?_
        refine AtL.store (H' := y.s :: [(b, .cells #[.int .i64 m, .bool false, .slice y.A y.l.length y.C, .int .i64 (off : Int), .int .i8 lr, .int .i64 3] 125 (0, 0))] :: [(vr, .cells #[.pointer (some ⟨b, 0, none⟩)] 103 (0, 0))] :: (Hc2 ++ T)) 1 0 tf_sz26 (.inl rfl) rfl rfl rfl rfl rfl rfl rfl rfl rfl ?_
        refine AtL.done ?_
        refine At.pick (H' := [(vr, .cells #[.pointer (some ⟨b, 0, none⟩)] 103 (0, 0))] :: y.s :: [(b, .cells #[.int .i64 m, .bool false, .slice y.A y.l.length y.C, .int .i64 (off : Int), .int .i8 lr, .int .i64 3] 125 (0, 0))] :: (Hc2 ++ T)) [2, 0, 1] 3 rfl rfl ?_
        have hS : frS m (y.l.drop off) = ⟨3, 0⟩ := by rw [frS, if_neg (by omega), if_neg (by omega), if_pos (by omega)]
        exact At.ret Tryz.func223 rfl rfl (⟨off, lr, Hc2, hoff, by rw [hS], hJ, rfl, by rw [hS]⟩)
      · intro hc3
        have hc3 : ¬ (m < (szF (y.l.drop off) : Int)) := of_decide_eq_false hc3
        refine At.seq ?_
        refine At.region ?_
        refine AtL.load tf_flat103 (.inl rfl) rfl rfl (Cell.own 2 0 rfl rfl rfl) ?_
        refine AtL.nilCheck (.inl rfl) rfl rfl ?_
        refine AtL.fieldAddrB tf_fo125_2 (.inl rfl) rfl rfl rfl ?_
        refine AtL.call tf_body225 (.inl rfl) rfl rfl (blen_ok (y := y) (off := off) (by omega) (by omega)) ?_
        rintro _ _ ⟨rfl, rfl⟩
        refine AtL.move (.inl rfl) rfl rfl ?_
        refine AtL.add (z := (szF (y.l.drop off) : Int) + 2) (.inl rfl) rfl rfl rfl (w64 (by omega) (by omega)) ?_
        refine AtL.lss (.inl rfl) rfl rfl rfl ?_
        refine AtL.assign (.inl rfl) rfl rfl ?_
        refine AtL.done ?_
        refine At.cond rfl ?_ ?_
        · intro hc4
          have hc4 : ((y.l.length - off : Nat) : Int) < ((szF (y.l.drop off) : Int) + 2) := of_decide_eq_true hc4
          refine At.pick (H' := [(vr, .cells #[.pointer (some ⟨b, 0, none⟩)] 103 (0, 0))] :: y.s :: [(b, .cells #[.int .i64 m, .bool false, .slice y.A y.l.length y.C, .int .i64 (off : Int), .int .i8 lr, .int .i64 0] 125 (0, 0))] :: (Hc2 ++ T)) [2, 0, 1] 3 rfl rfl ?_
          have hS : frS m (y.l.drop off) = ⟨0, 0⟩ := by rw [frS, if_neg (by omega), if_neg (by omega), if_neg (by omega), if_pos (by omega)]
          exact At.ret Tryz.func223 rfl rfl (⟨off, lr, Hc2, hoff, by rw [hS], hJ, rfl, by rw [hS]⟩)
        · intro hc4
          have hc4 : ¬ (((y.l.length - off : Nat) : Int) < ((szF (y.l.drop off) : Int) + 2)) := of_decide_eq_false hc4
          have hS : frS m (y.l.drop off) = ⟨0, szF (y.l.drop off)⟩ := by rw [frS, if_neg (by omega), if_neg (by omega), if_neg (by omega), if_neg (by omega)]
          refine At.skip ?_
          refine At.inBlock ?_
          refine At.seq ?_
          refine At.region ?_
          refine AtL.load tf_flat103 (.inl rfl) rfl rfl (Cell.own 2 0 rfl rfl rfl) ?_
          refine AtL.nilCheck (.inl rfl) rfl rfl ?_
          refine AtL.fieldAddrB tf_fo125_2 (.inl rfl) rfl rfl rfl ?_
          refine AtL.call tf_body226 (.inl rfl) rfl rfl (bnext_ok (y := y) (off := off) 2 (by first | omega | (dsimp only; omega)) (by first | omega | (dsimp only; omega))) ?_
          rintro _ _ ⟨A5, C6, lr8, o7, rfl, rfl⟩
          refine AtL.done ?_
          refine At.seq ?_
          refine At.region ?_
          refine AtL.move (.inl rfl) rfl rfl ?_
          refine AtL.load tf_flat103 (.inl rfl) rfl rfl (Cell.own 2 0 rfl rfl rfl) ?_
          refine AtL.nilCheck (.inl rfl) rfl rfl ?_
          refine AtL.fieldAddrB tf_fo125_2 (.inl rfl) rfl rfl rfl ?_
          refine AtL.move (.inl rfl) rfl rfl ?_
          refine AtL.call tf_body226 (.inl rfl) rfl rfl (bnext_ok (y := y) (off := off + 2) (szF (y.l.drop off)) (by first | omega | (dsimp only; omega)) (by first | omega | (dsimp only; omega))) ?_
          rintro _ _ ⟨A9, C10, lr12, o11, rfl, rfl⟩
          refine AtL.call tf_body90 (.inl rfl) rfl rfl (bclone_ok (l := subl y.l (off + 2) ((off + 2) + (szF (y.l.drop off)))) (o11.rd (i := 0) rfl) (by have h9 := subl_len (l := y.l) (i := off + 2) (j := off + 2 + szF (y.l.drop off)) (by omega); omega)) ?_
          rintro _ _ ⟨⟨A13, C14, l15, s16, o17⟩, hx18, rfl, rfl⟩
          obtain rfl : subl y.l (off + 2) ((off + 2) + (szF (y.l.drop off))) = l15 := hx18.symm
          refine AtL.pick (H' := s16 :: [(vr, .cells #[.pointer (some ⟨b, 0, none⟩)] 103 (0, 0))] :: y.s :: [(b, .cells #[.int .i64 m, .bool false, .slice y.A y.l.length y.C, .int .i64 (((off : Int) + (2 : Int)) + (szF (y.l.drop off) : Int)), .int .i8 lr12, .int .i64 0] 125 (0, 0))] :: (Hc2 ++ T)) [0, 3, 1, 2] 4 rfl rfl ?_
          refine AtL.yield (.inl rfl) rfl rfl rfl (YCalls.perm ((perm3 ([(vr, .cells #[.pointer (some ⟨b, 0, none⟩)] 103 (0, 0))]) y.s ([(b, .cells #[.int .i64 m, .bool false, .slice y.A y.l.length y.C, .int .i64 (((off : Int) + (2 : Int)) + (szF (y.l.drop off) : Int)), .int .i8 lr12, .int .i64 0] 125 (0, 0))]) Hc2 T).cons s16) (hY (y.l.drop off) Hc2 (by rw [hS]; dsimp only; omega) hJ ⟨A13, C14, subl y.l (off + 2) ((off + 2) + (szF (y.l.drop off))), s16, o17⟩ (by rw [hS]; exact subl_cut _ _ _) ([(vr, .cells #[.pointer (some ⟨b, 0, none⟩)] 103 (0, 0))] :: y.s :: [(b, .cells #[.int .i64 m, .bool false, .slice y.A y.l.length y.C, .int .i64 (((off : Int) + (2 : Int)) + (szF (y.l.drop off) : Int)), .int .i8 lr12, .int .i64 0] 125 (0, 0))] :: T))) ?_
          rintro _ _ ⟨rfl, Hc3, rfl, hJ3⟩
          refine AtL.perm (perm3 _ _ _ Hc3 T).symm ?_
          refine AtL.not (.inl rfl) rfl rfl ?_
          refine AtL.done ?_
          refine At.condF rfl ?_
          refine At.skip ?_
          refine At.inBlock ?_
          rw [hS] at hJ3; dsimp only at hJ3; rw [List.drop_drop] at hJ3
          refine ihL1 ((off + 2) + (szF (y.l.drop off))) lr12 Hc3 (⟨by rw [show (off + 2) + (szF (y.l.drop off)) = off + (2 + szF (y.l.drop off)) by omega]; exact hJ3, by omega⟩) (by omega) _ ?_
          exact ⟨rfl, rfl, trivial⟩
set_option maxHeartbeats 1000000 in
theorem fr_push_ok {w0 : World} {base : Nat} {H : List Seg} {b : Nat} {y : Sl tyB 5} {m lr e : Int} {br : Bool} {off : Nat} {A : Option Addr} {C : Nat} {l : List UInt8} (h : Rd tyB w0 base H A C l) (hl : y.l.length + l.length ≤ 300000000) (ho : off ≤ y.l.length) (hm : 12 ≤ m ∧ m ≤ 65535) (he : br = false → e = 0) :
    SCalls Tryz.prog 216 [.pointer (some ⟨b, 0, none⟩), .slice A l.length C] w0 base (y.s :: [(b, .cells #[.int .i64 m, .bool br, .slice y.A y.l.length y.C, .int .i64 (off : Int), .int .i8 lr, .int .i64 e] 125 (0, 0))] :: H) (fun v H' => ∃ (x : Sl tyL 34) (ys : List (Sl tyB 5)) (z : Sl tyB 5) (off' : Nat) (lr' : Int), x.l = ys.map Sl.v ∧ ys.map (·.l) = (frP br m (y.l.drop off) l).out ∧ off' ≤ z.l.length ∧ z.l.length ≤ y.l.length + l.length ∧ z.l.drop off' = (frP br m (y.l.drop off) l).rest ∧ v = .tuple #[.slice x.A x.l.length x.C, int (frP br m (y.l.drop off) l).e] ∧ H' = x.s :: segsOf ys :: z.s :: [(b, .cells #[.int .i64 m, .bool (frB br m (y.l.drop off) l), .slice z.A z.l.length z.C, .int .i64 (off' : Int), .int .i8 lr', .int .i64 (if br = true then e else (frF m (y.l.drop off ++ l)).e)] 125 (0, 0))] :: H) := by
  refine SCalls.of_walk (n := 45) Tryz.func216 rfl rfl rfl fun cs => ?_
  refine At.seq ?_
  refine At.region ?_
  refine AtL.assign (.inl rfl) rfl rfl ?_
  refine AtL.assign (.inl rfl) rfl rfl ?_
  refine AtL.done ?_
  refine At.seq ?_
  refine At.block ?_
  refine At.seq ?_
  refine At.region ?_
  refine AtL.move (.inl rfl) rfl rfl ?_
  refine AtL.pick (H' := [(b, .cells #[.int .i64 m, .bool br, .slice y.A y.l.length y.C, .int .i64 (off : Int), .int .i8 lr, .int .i64 e] 125 (0, 0))] :: y.s :: H) [1, 0] 2 rfl rfl ?_
  refine AtL.call tf_body217 (.inl rfl) rfl rfl (none_ok (y := y) (off := off)) ?_
  rintro _ _ ⟨rfl, rfl⟩
  refine AtL.assign (.inl rfl) rfl rfl ?_
  refine AtL.done ?_
  refine At.condIs false rfl (decide_eq_false (by omega)) ?_
  refine At.seq ?_
  refine At.region ?_
  refine AtL.move (.inl rfl) rfl rfl ?_
  refine AtL.nilCheck (.inl rfl) rfl rfl ?_
  refine AtL.fieldAddrB tf_fo125_1 (.inl rfl) rfl rfl rfl ?_
  refine AtL.load tf_flat4 (.inl rfl) rfl rfl (Cell.own 0 0 rfl rfl rfl) ?_
  refine AtL.assign (.inl rfl) rfl rfl ?_
  refine AtL.done ?_
  refine At.cond rfl ?_ ?_
  · intro hc2
    have hc2 : br = true := hc2
    refine At.seq ?_
    refine At.region ?_
    refine AtL.assign (.inl rfl) rfl rfl ?_
    refine AtL.assign (.inl rfl) rfl rfl ?_
    refine AtL.done ?_
    refine At.nil ?_
    refine At.nil ?_
    refine At.pick (H' := [] :: [] :: y.s :: [(b, .cells #[.int .i64 m, .bool br, .slice y.A y.l.length y.C, .int .i64 (off : Int), .int .i8 lr, .int .i64 e] 125 (0, 0))] :: H) [0, 1, 3, 2] 4 rfl rfl ?_
    exact At.ret Tryz.func216 rfl rfl (⟨Sl.nil, [], y, off, lr, rfl, by rw [frP, if_pos hc2]; rfl, ho, Nat.le_add_right _ _, by rw [frP, if_pos hc2], by rw [frP, if_pos hc2]; rfl, by rw [frB, if_pos hc2, if_pos hc2, hc2]; rfl⟩)
  · intro hc2
    have hc2 : br = false := hc2
    subst hc2
    obtain rfl := he rfl
    refine At.skip ?_
    refine At.inBlock ?_
    refine At.seq ?_
    refine At.region ?_
    refine AtL.move (.inl rfl) rfl rfl ?_
    refine AtL.nilCheck (.inl rfl) rfl rfl ?_
    refine AtL.fieldAddrB tf_fo125_2 (.inl rfl) rfl rfl rfl ?_
    refine AtL.move (.inl rfl) rfl rfl ?_
    refine AtL.pick (H' := y.s :: [(b, .cells #[.int .i64 m, .bool false, .slice y.A y.l.length y.C, .int .i64 (off : Int), .int .i8 lr, .int .i64 0] 125 (0, 0))] :: H) [1, 0] 2 rfl rfl ?_
    refine AtL.call tf_body218 (.inl rfl) rfl rfl (bwrite_ok (y := y) (off := off) (l := l) h (by first | omega | (dsimp only; omega)) (by first | omega | (dsimp only; omega))) ?_
    rintro _ _ ⟨⟨A1, C2, l3, s4, o5⟩, p6, h7, h8, h9, rfl, rfl⟩
    have hw1 := h7
    have hw2 := h8
    have hw3 := h9
    dsimp only at hw1 hw2 hw3
    refine AtL.done ?_
    refine At.seq ?_
    refine At.region ?_
    refine AtL.alloc tf_zero22 (cs := #[.slice none 0 0]) rfl (.inl rfl) rfl ?_
    intro b10
    refine AtL.done ?_
    refine At.seq ?_
    refine At.seq ?_
    refine At.region ?_
    refine AtL.move (.inl rfl) rfl rfl ?_
    refine AtL.call tf_body219 (.inl rfl) rfl rfl (whole_ok (b := b)) ?_
    rintro _ _ ⟨vr11, rfl, rfl⟩
    refine AtL.done ?_
    refine At.block ?_
    obtain ⟨c0, hc0⟩ : ∃ c0, c0 = l3.drop p6 := ⟨_, rfl⟩
    have hc0l : c0.length = l3.length - p6 := by rw [hc0, List.length_drop]
    refine At.nil ?_
    refine At.nil ?_
    refine At.rangeF (R := fun L lp rr v H' => ∃ off1 : Nat, ∃ lr1 : Int, ∃ x : Sl tyL 34, ∃ ys : List (Sl tyB 5), x.l = ys.map Sl.v ∧ ys.map (·.l) = (frF m c0).out ∧ off1 ≤ l3.length ∧ ((frF m c0).e = 0 → l3.drop off1 = (frF m c0).rest) ∧ H' = [(vr11, .cells #[.pointer (some ⟨b, 0, none⟩)] 103 (0, 0))] :: s4 :: [(b, .cells #[.int .i64 m, .bool false, .slice A1 l3.length C2, .int .i64 (off1 : Int), .int .i8 lr1, .int .i64 ((frF m c0).e)] 125 (0, 0))] :: [(lp, .loop L)] :: [(rr, .deferred (some []))] :: x.s :: segsOf ys :: [(b10, .cells #[.slice x.A x.l.length x.C] 22 (0, 0))] :: H) rfl tf_body223 rfl (fun lp => rfl) (fun L lp rr hL => ?_) (fun L lp rr v H1 hL hR => ?_)
    · skip
      refine SCalls.pick (H' := [(vr11, .cells #[.pointer (some ⟨b, 0, none⟩)] 103 (0, 0))] :: s4 :: [(b, .cells #[.int .i64 m, .bool false, .slice A1 l3.length C2, .int .i64 (p6 : Int), .int .i8 0, .int .i64 0] 125 (0, 0))] :: [(lp, .loop L)] :: [(rr, .deferred (some []))] :: [] :: [] :: [(b10, .cells #[.slice none 0 0] 22 (0, 0))] :: H) [4, 6, 7, 0, 1, 2, 3, 5] 8 rfl rfl ?_
      refine SCalls.mono (wholeit_ok (y := ⟨A1, C2, l3, s4, o5⟩) (off := p6) (T := H) (Hc := [[(lp, .loop L)], [(rr, .deferred (some []))], [], [], [(b10, .cells #[.slice none 0 0] 22 (0, 0))]]) (J := (fun cu Hc => ∃ x : Sl tyL 34, ∃ ys : List (Sl tyB 5), x.l = ys.map Sl.v ∧ ys.map (·.l) ++ (frF m cu).out = (frF m c0).out ∧ (frF m cu).e = (frF m c0).e ∧ (frF m cu).rest = (frF m c0).rest ∧ ys.length + cu.length ≤ c0.length ∧ Hc = [[(lp, .loop L)], [(rr, .deferred (some []))], x.s, segsOf ys, [(b10, .cells #[.slice x.A x.l.length x.C] 22 (0, 0))]])) (by dsimp only; omega) (by dsimp only; omega) hm (fun cu Hc hn9 hJ z hz T' => ?_) ⟨Sl.nil, [], rfl, by dsimp only; rw [hc0]; rfl, by dsimp only; rw [hc0], by dsimp only; rw [hc0], by dsimp only; rw [hc0]; simp, rfl⟩) (fun v H' hp => ?_)
      · skip
        obtain ⟨x, ys, hxy, hI, hIe, hIr, hlen, rfl⟩ := hJ
        have hxl : x.l.length = ys.length := by rw [hxy, List.length_map]
        have hn8 := frS_n m cu hn9
        refine YCalls.walkL hL (i := 1) (j := 0) rfl rfl rfl rfl rfl (fun c cs => ?_)
        refine At.region ?_
        refine AtL.assign (.inl rfl) rfl rfl ?_
        refine AtL.done ?_
        refine At.beginL 1 0 hL rfl rfl rfl rfl ?_
        refine At.block ?_
        refine At.region ?_
        refine AtL.load tf_flat22 (.inl rfl) rfl rfl (Cell.own 5 0 rfl rfl rfl) ?_
        refine AtL.move (.inl rfl) rfl rfl ?_
        refine AtL.buildSlice (cs := [.slice z.A z.l.length z.C]) Tryz.underlying22 tf_zero34 tf_sz34 rfl rfl (.inl rfl) rfl rfl rfl ?_
        intro b12
        refine AtL.own1 tyL (l := ([(⟨z.A, z.C, z.l⟩ : Bs)] : List Bs)) rfl rfl (by first | decide | simp) ?_
        intro s13 o14
        refine AtL.append (l := x.l) (news := [(⟨z.A, z.C, z.l⟩ : Bs)]) 4 tf_el22 rfl x.own (o14.rd (i := 0) rfl) (by first | omega | (simp only [List.length_append, List.length_cons, List.length_nil]; omega) | (simp; done) | (simp; omega)) (.inl rfl) rfl rfl rfl ?_
        intro A15 C16 s17 o18
        refine AtL.store (H' := s13 :: z.s :: [(lp, .loop (busyL L))] :: [(rr, .deferred (some []))] :: s17 :: segsOf ys :: [(b10, .cells #[.slice A15 (x.l ++ [(⟨z.A, z.C, z.l⟩ : Bs)]).length C16] 22 (0, 0))] :: T') 6 0 tf_sz22 (.inl rfl) rfl rfl rfl rfl rfl rfl rfl rfl rfl ?_
        refine AtL.done ?_
        refine At.inBlock ?_
        refine At.pick (H' := z.s :: segsOf ys :: s13 :: [(lp, .loop (busyL L))] :: [(rr, .deferred (some []))] :: s17 :: [(b10, .cells #[.slice A15 (x.l ++ [(⟨z.A, z.C, z.l⟩ : Bs)]).length C16] 22 (0, 0))] :: T') [1, 5, 0, 2, 3, 4, 6] 7 rfl rfl ?_
        refine At.flat (flat_snoc z ys _) ?_
        refine At.pick (H' := [(lp, .loop (busyL L))] :: [(rr, .deferred (some []))] :: s17 :: segsOf (ys ++ [z]) :: [(b10, .cells #[.slice A15 (x.l ++ [(⟨z.A, z.C, z.l⟩ : Bs)]).length C16] 22 (0, 0))] :: T') [2, 3, 4, 0, 5] 6 rfl rfl ?_
        have hM := frF_more hn9
        exact At.roundEndL 0 0 hL rfl rfl rfl (⟨rfl, [[(lp, .loop L)], [(rr, .deferred (some []))], s17, segsOf (ys ++ [z]), [(b10, .cells #[.slice A15 (x.l ++ [(⟨z.A, z.C, z.l⟩ : Bs)]).length C16] 22 (0, 0))]], rfl, ⟨A15, C16, x.l ++ [(⟨z.A, z.C, z.l⟩ : Bs)], s17, o18⟩, ys ++ [z], by dsimp only; rw [hxy]; simp [Sl.v], by rw [← hI, hM]; simp [hz], by rw [← hIe, hM], by rw [← hIr, hM], by have := frS_n m cu hn9; simp; omega, rfl⟩)
      · skip
        obtain ⟨off1, lr1, Hc', ho1, hS1, ⟨x, ys, hxy, hI, hIe, hIr, hlen, rfl⟩, rfl, rfl⟩ := hp
        dsimp only at ho1 hS1 hI hIe hIr hlen
        have hq : (frS m (l3.drop off1)).e = (frF m c0).e ∧ ys.map (·.l) = (frF m c0).out ∧ ((frF m c0).e = 0 → l3.drop off1 = (frF m c0).rest) := by
          by_cases h9 : (frS m (l3.drop off1)).e = 0
          · have hM := frF_none h9 hS1
            rw [hM] at hI hIe hIr; dsimp only at hI hIe hIr
            exact ⟨by rw [h9, hIe], by rw [← hI]; simp, fun _ => hIr⟩
          · have hM := frF_err h9
            rw [hM] at hI hIe hIr; dsimp only at hI hIe hIr
            exact ⟨hIe, by rw [← hI]; simp, fun h8 => absurd (hIe.trans h8) h9⟩
        rw [hq.1]
        exact ⟨off1, lr1, x, ys, hxy, hq.2.1, ho1, hq.2.2, rfl⟩
    · skip
      obtain ⟨off1, lr1, x, ys, hxy, hI, ho1, hR1, rfl⟩ := hR
      refine ⟨3, 0, _, L, _, rfl, rfl, loop_ready hL, rfl, ?_⟩
      rw [loop_dry hL]
      refine At.inBlock ?_
      refine At.seq ?_
      refine At.seq ?_
      refine At.region ?_
      refine AtL.move (.inl rfl) rfl rfl ?_
      refine AtL.nilCheck (.inl rfl) rfl rfl ?_
      refine AtL.fieldAddrB tf_fo125_3 (.inl rfl) rfl rfl rfl ?_
      refine AtL.load tf_flat26 (.inl rfl) rfl rfl (Cell.own 2 0 rfl rfl rfl) ?_
      refine AtL.nei (.inl rfl) rfl rfl rfl ?_
      refine AtL.done ?_
      refine At.cond rfl ?_ ?_
      · intro hc3
        have hc3 : ¬ (((frF m c0).e : Int) = 0) := of_decide_eq_false (bnot_true hc3)
        refine At.seq ?_
        refine At.region ?_
        refine AtL.move (.inl rfl) rfl rfl ?_
        refine AtL.nilCheck (.inl rfl) rfl rfl ?_
        refine AtL.fieldAddrB tf_fo125_1 (.inl rfl) rfl rfl rfl ?_
        refine AtL.store (H' := [(vr11, .cells #[.pointer (some ⟨b, 0, none⟩)] 103 (0, 0))] :: s4 :: [(b, .cells #[.int .i64 m, .bool true, .slice A1 l3.length C2, .int .i64 (off1 : Int), .int .i8 lr1, .int .i64 ((frF m c0).e)] 125 (0, 0))] :: [(lp, .loop (overL L))] :: [(rr, .deferred (some []))] :: x.s :: segsOf ys :: [(b10, .cells #[.slice x.A x.l.length x.C] 22 (0, 0))] :: H) 2 0 tf_sz4 (.inl rfl) rfl rfl rfl rfl rfl rfl rfl rfl rfl ?_
        refine AtL.done ?_
        refine At.region ?_
        refine AtL.move (.inl rfl) rfl rfl ?_
        refine AtL.nilCheck (.inl rfl) rfl rfl ?_
        refine AtL.fieldAddrB tf_fo125_2 (.inl rfl) rfl rfl rfl ?_
        refine AtL.pick (H' := s4 :: [(b, .cells #[.int .i64 m, .bool true, .slice A1 l3.length C2, .int .i64 (off1 : Int), .int .i8 lr1, .int .i64 ((frF m c0).e)] 125 (0, 0))] :: [(vr11, .cells #[.pointer (some ⟨b, 0, none⟩)] 103 (0, 0))] :: [(lp, .loop (overL L))] :: [(rr, .deferred (some []))] :: x.s :: segsOf ys :: [(b10, .cells #[.slice x.A x.l.length x.C] 22 (0, 0))] :: H) [1, 2, 0, 3, 4, 5, 6, 7] 8 rfl rfl ?_
        refine AtL.call tf_body220 (.inl rfl) rfl rfl (breset_ok (y := ⟨A1, C2, l3, s4, o5⟩)) ?_
        rintro _ _ ⟨⟨A19, C20, l21, s22, o23⟩, h24, h25, rfl, rfl⟩
        obtain rfl : ([] : List UInt8) = l21 := h24.symm
        have hrc := h25
        dsimp only at hrc
        refine AtL.done ?_
        refine At.seq ?_
        refine At.draw (es := []) (pv := [(0, .slice x.A x.l.length x.C), (1, .pointer (some ⟨b, 0, none⟩)), (2, .pointer (some ⟨b, 0, none⟩)), (3, .pointer (some ⟨b, 5, none⟩)), (4, .int .i64 ((frF m c0).e)), (5, .slice x.A x.l.length x.C), (6, .int .i64 ((frF m c0).e))]) tf_mixed (by kernel_rfl) (by kernel_rfl) (by kernel_rfl) ?_
        refine ⟨⟨.inr ⟨_, rfl, rfl, .inl ⟨rfl, Do.load tf_flat22 rfl (Cell.own 7 0 rfl rfl rfl)⟩⟩, .inr ⟨_, rfl, rfl, .inl ⟨rfl, Do.move rfl⟩⟩, .inr ⟨_, rfl, rfl, .inl ⟨rfl, Do.nilCheck rfl⟩⟩, .inr ⟨_, rfl, rfl, .inl ⟨rfl, Do.fieldAddrB tf_fo125_3 rfl rfl⟩⟩, .inr ⟨_, rfl, rfl, .inl ⟨rfl, Do.load tf_flat26 rfl (Cell.own 1 0 rfl rfl rfl)⟩⟩, .inr ⟨_, rfl, rfl, .inl ⟨rfl, Do.assign rfl⟩⟩, .inr ⟨_, rfl, rfl, .inl ⟨rfl, Do.assign rfl⟩⟩, trivial⟩, by kernel_rfl, ?_⟩
        refine At.mono (E' := [(4, .slice x.A x.l.length x.C), (5, .int .i64 ((frF m c0).e))]) ⟨rfl, rfl, trivial⟩ ?_
        refine At.retU rfl ?_
        refine Un.collected (i := 4) (j := 0) rfl rfl rfl rfl ?_
        have hc9 : c0 = y.l.drop off ++ l := by rw [hc0, hw2]
        have hp : frP false m (y.l.drop off) l = frF m c0 := by rw [frP, if_neg (by simp), hc9]
        have hb : frB false m (y.l.drop off) l = decide ((frF m c0).e ≠ 0) := by rw [frB, if_neg (by simp), hc9]
        have he9 : (frF m c0).e ≠ 0 := hc3
        have hr9 := frF_rest m c0 he9
        exact Un.leftP (vs := [.slice x.A x.l.length x.C, .int .i64 ((frF m c0).e)]) (H2 := x.s :: segsOf ys :: s22 :: [(b, .cells #[.int .i64 m, .bool true, .slice A19 ([] : List UInt8).length C20, .int .i64 0, .int .i8 0, .int .i64 ((frF m c0).e)] 125 (0, 0))] :: H) [5, 6, 0, 1] 8 rfl rfl Tryz.func216 rfl ⟨rfl, rfl, trivial⟩ (⟨x, ys, ⟨A19, C20, ([] : List UInt8), s22, o23⟩, 0, 0, hxy, by rw [hp]; exact hI, by simp, by simp, by rw [hp, hr9]; simp, by rw [hp] <;> rfl, by rw [hb, decide_eq_true he9, if_neg (by simp), ← hc9] <;> rfl⟩)
      · intro hc3
        have hc3 : ((frF m c0).e : Int) = 0 := of_decide_eq_true (bnot_false hc3)
        refine At.skip ?_
        refine At.seq ?_
        refine At.draw (es := []) (pv := [(0, .slice x.A x.l.length x.C), (1, .pointer (some ⟨b, 0, none⟩)), (2, .pointer (some ⟨b, 0, none⟩)), (3, .pointer (some ⟨b, 5, none⟩)), (4, .int .i64 ((frF m c0).e)), (5, .slice x.A x.l.length x.C), (6, .int .i64 ((frF m c0).e))]) tf_mixed (by kernel_rfl) (by kernel_rfl) (by kernel_rfl) ?_
        refine ⟨⟨.inr ⟨_, rfl, rfl, .inl ⟨rfl, Do.load tf_flat22 rfl (Cell.own 7 0 rfl rfl rfl)⟩⟩, .inr ⟨_, rfl, rfl, .inl ⟨rfl, Do.move rfl⟩⟩, .inr ⟨_, rfl, rfl, .inl ⟨rfl, Do.nilCheck rfl⟩⟩, .inr ⟨_, rfl, rfl, .inl ⟨rfl, Do.fieldAddrB tf_fo125_3 rfl rfl⟩⟩, .inr ⟨_, rfl, rfl, .inl ⟨rfl, Do.load tf_flat26 rfl (Cell.own 2 0 rfl rfl rfl)⟩⟩, .inr ⟨_, rfl, rfl, .inl ⟨rfl, Do.assign rfl⟩⟩, .inr ⟨_, rfl, rfl, .inl ⟨rfl, Do.assign rfl⟩⟩, trivial⟩, by kernel_rfl, ?_⟩
        refine At.mono (E' := [(4, .slice x.A x.l.length x.C), (5, .int .i64 ((frF m c0).e))]) ⟨rfl, rfl, trivial⟩ ?_
        refine At.retU rfl ?_
        refine Un.collected (i := 4) (j := 0) rfl rfl rfl rfl ?_
        have hc9 : c0 = y.l.drop off ++ l := by rw [hc0, hw2]
        have hp : frP false m (y.l.drop off) l = frF m c0 := by rw [frP, if_neg (by simp), hc9]
        have hb : frB false m (y.l.drop off) l = decide ((frF m c0).e ≠ 0) := by rw [frB, if_neg (by simp), hc9]
        have he9 : (frF m c0).e = 0 := by omega
        exact Un.leftP (vs := [.slice x.A x.l.length x.C, .int .i64 ((frF m c0).e)]) (H2 := x.s :: segsOf ys :: s4 :: [(b, .cells #[.int .i64 m, .bool false, .slice A1 l3.length C2, .int .i64 (off1 : Int), .int .i8 lr1, .int .i64 ((frF m c0).e)] 125 (0, 0))] :: H) [5, 6, 1, 2] 8 rfl rfl Tryz.func216 rfl ⟨rfl, rfl, trivial⟩ (⟨x, ys, ⟨A1, C2, l3, s4, o5⟩, off1, lr1, hxy, by rw [hp]; exact hI, ho1, hw3, by rw [hp]; exact hR1 he9, by rw [hp] <;> rfl, by rw [hb, decide_eq_false (fun h => h he9), if_neg (by simp), ← hc9] <;> rfl⟩)
end Go.Proofs.YtbfabhdfmoiabaaGreatDoor
namespace Go.Proofs.YtbfabhdfmoiabaaGreatDoor
set_option linter.unusedVariables false
set_option linter.unusedSimpArgs false
set_option maxRecDepth 100000
theorem getD_left {a b : List UInt8} {i : Nat} (h : i < a.length) : (a ++ b).getD i 0 = a.getD i 0 := by
  simp [List.getD, List.getElem?_append_left h]
theorem subl_left {a b : List UInt8} {i j : Nat} (h : j ≤ a.length) : subl (a ++ b) i j = subl a i j := by
  unfold subl
  by_cases hi : i ≤ a.length
  · rw [List.drop_append_of_le_length hi, List.take_append_of_le_length (by simp; omega)]
  · have : j - i = 0 := by omega
    simp [this]
theorem szF_app {a b : List UInt8} (h : 2 ≤ a.length) : szF (a ++ b) = szF a := by
  unfold szF
  rw [getD_left (by omega), getD_left (by omega)]
theorem frS_app {m : Int} {a b : List UInt8} (h : (frS m a).n ≠ 0 ∨ (frS m a).e ≠ 0) : frS m (a ++ b) = frS m a := by
  have hl : (a ++ b).length = a.length + b.length := List.length_append
  by_cases h2 : a.length < 2
  · rw [frS, if_pos h2] at h; simp at h
  · have hz := szF_app (a := a) (b := b) (by omega)
    rw [frS, if_neg (by omega), hz]
    conv => rhs; rw [frS, if_neg h2]
    rw [frS, if_neg h2] at h
    split
    · rfl
    split
    · rfl
    rename_i h3 h4
    rw [if_neg h3, if_neg h4] at h
    by_cases h5 : a.length < szF a + 2
    · rw [if_pos h5] at h; simp at h
    · rw [if_neg (by omega), if_neg h5]
theorem frF_app (m : Int) (a b : List UInt8) : frF m (a ++ b) = if (frF m a).e ≠ 0 then frF m a else ⟨(frF m a).out ++ (frF m ((frF m a).rest ++ b)).out, (frF m ((frF m a).rest ++ b)).e, (frF m ((frF m a).rest ++ b)).rest⟩ := by
  induction a using (measure List.length).wf.induction with
  | _ a ih =>
    by_cases he : (frS m a).e = 0
    · by_cases hn : (frS m a).n = 0
      · rw [frF_none he hn, if_neg (by simp)]; simp
      · have h1 := frS_n m a hn
        have hA := frS_app (b := b) (.inl hn)
        have hd : (a ++ b).drop (2 + (frS m a).n) = a.drop (2 + (frS m a).n) ++ b := List.drop_append_of_le_length (by omega)
        rw [frF_more (c := a ++ b) (by rw [hA]; exact hn), hA, hd, ih _ (show (List.drop _ _).length < _ by simp; omega), frF_more hn, subl_left (by omega)]
        dsimp only
        split <;> simp
    · have hA := frS_app (b := b) (.inr he)
      rw [frF_err (c := a ++ b) (by rw [hA]; exact he), hA, frF_err he, if_pos he]
theorem frF_keep {m : Int} (hm : 0 ≤ m) (c : List UInt8) : ((frF m c).rest.length : Int) ≤ m + 1 ∧ (frF m c).rest.length ≤ c.length ∧ (frF m c).out.length ≤ c.length := by
  induction c using (measure List.length).wf.induction with
  | _ c ih =>
    by_cases he : (frS m c).e = 0
    · by_cases hn : (frS m c).n = 0
      · rw [frF_none he hn]
        refine ⟨?_, Nat.le_refl _, by simp⟩
        show (c.length : Int) ≤ m + 1
        revert he hn
        unfold frS
        repeat' split
        all_goals simp
        all_goals omega
      · have h1 := frS_n m c hn
        rw [frF_more hn]
        have := ih _ (show (List.drop (2 + (frS m c).n) c).length < _ by simp; omega)
        simp only [List.length_drop, List.length_cons] at this ⊢
        omega
    · rw [frF_err he]; simp; omega
theorem fr_nil (m : Int) : frF m [] = ⟨[], 0, []⟩ := by
  have h1 : frS m [] = ⟨0, 0⟩ := by rw [frS, if_pos (by decide)]
  rw [frF_none (by rw [h1]) (by rw [h1])]
theorem frm_ahead {m : Int} {l b : List UInt8} (h : frmE l = 0) : frF m (frmL l ++ b) = if m < (l.length : Int) then ⟨[], 3, []⟩ else ⟨l :: (frF m b).out, (frF m b).e, (frF m b).rest⟩ := by
  have hl := frmE_le l h
  have e : frmL l = [UInt8.ofInt ((l.length : Int) / 256), UInt8.ofInt (l.length : Int)] ++ l := by rw [frmL, if_pos h]
  have hz : szF (frmL l ++ b) = l.length := by
    rw [szF, e]
    show 256 * (UInt8.ofInt ((l.length : Int) / 256)).toNat + (UInt8.ofInt (l.length : Int)).toNat = _
    rw [ofInt_toNat, ofInt_toNat]; omega
  have hln : (frmL l ++ b).length = l.length + 2 + b.length := by rw [e]; simp; omega
  have hx : subl (frmL l ++ b) 2 (2 + l.length) = l := by rw [e]; simp [subl]
  have hd : (frmL l ++ b).drop (2 + l.length) = b := by
    rw [show 2 + l.length = (frmL l).length from by rw [e]; simp; omega]; exact List.drop_left
  by_cases hm : m < (l.length : Int)
  · have hS : frS m (frmL l ++ b) = ⟨3, 0⟩ := by rw [frS, if_neg (by omega), hz, if_neg (by omega), if_pos hm]
    rw [frF_err (by rw [hS]; decide), hS, if_pos hm]
  · have hS : frS m (frmL l ++ b) = ⟨0, l.length⟩ := by rw [frS, if_neg (by omega), hz, if_neg (by omega), if_neg hm, if_neg (by omega)]
    rw [frF_more (by rw [hS]; dsimp only; omega), hS, if_neg hm]
    dsimp only
    rw [hx, hd]
theorem same_stop {a b : List Bs} (hl : a.length = b.length) (hj : ∀ j, j < a.length → (a.getD j ⟨none, 0, []⟩).l = (b.getD j ⟨none, 0, []⟩).l) : a.map (·.l) = b.map (·.l) := by
  apply List.ext_getElem (by simpa using hl)
  intro i h1 h2
  have h3 : i < a.length := by simpa using h1
  have := hj i h3
  simp only [List.getElem_map]
  simpa [List.getD, h3, show i < b.length by omega] using this
theorem same_get {a b : List Bs} (h : a.map (·.l) = b.map (·.l)) (i : Nat) : (a.getD i ⟨none, 0, []⟩).l = (b.getD i ⟨none, 0, []⟩).l := by
  have h1 : (a.map (·.l))[i]? = (b.map (·.l))[i]? := by rw [h]
  simp only [List.getElem?_map] at h1
  simp only [List.getD]
  cases ha : a[i]? <;> cases hb : b[i]? <;> rw [ha, hb] at h1 <;> simp_all
set_option maxHeartbeats 400000 in
theorem slists_ok {w0 : World} {base : Nat} {H : List Seg} {A A2 : Option Addr} {C C2 : Nat} {a b : List Bs} (h : Rd tyL w0 base H A C a) (he : ∀ x ∈ a, Rd tyB w0 base H x.A x.C x.l) (h2 : Rd tyL w0 base H A2 C2 b) (he2 : ∀ x ∈ b, Rd tyB w0 base H x.A x.C x.l) :
    SCalls Tryz.prog 17 [.slice A a.length C, .slice A2 b.length C2] w0 base (H) (fun v H' => v = .bool (decide (a.map (·.l) = b.map (·.l))) ∧ H' = H) := by
  have hle1 := h.le
  have hcap1 := h.cap
  have hle2 := h2.le
  have hcap2 := h2.cap
  refine SCalls.of_walk (n := 27) Tryz.func17 rfl rfl rfl fun cs => ?_
  refine At.seq ?_
  refine At.region ?_
  refine AtL.assign (.inl rfl) rfl rfl ?_
  refine AtL.done ?_
  refine At.seq ?_
  refine At.seq ?_
  refine At.region ?_
  refine AtL.move (.inl rfl) rfl rfl ?_
  refine AtL.lenL Tryz.underlying22 (.inl rfl) rfl rfl ?_
  refine AtL.move (.inl rfl) rfl rfl ?_
  refine AtL.lenL Tryz.underlying22 (.inl rfl) rfl rfl ?_
  refine AtL.nei (.inl rfl) rfl rfl rfl ?_
  refine AtL.done ?_
  refine At.cond rfl ?_ ?_
  · intro hc1
    have hc1 : ¬ ((a.length : Int) = (b.length : Int)) := of_decide_eq_false (bnot_true hc1)
    refine At.seq ?_
    refine At.region ?_
    refine AtL.assign (.inl rfl) rfl rfl ?_
    refine AtL.done ?_
    exact At.ret Tryz.func17 rfl rfl (⟨congrArg Value.bool (decide_eq_false (fun h9 => by have := congrArg List.length h9; simp at this; omega)).symm, rfl⟩)
  · intro hc1
    have hc1 : (a.length : Int) = (b.length : Int) := of_decide_eq_true (bnot_false hc1)
    refine At.skip ?_
    refine At.seq ?_
    refine At.seq ?_
    refine At.region ?_
    refine AtL.assign (.inl rfl) rfl rfl ?_
    refine AtL.done ?_
    refine At.block ?_
    refine At.loop (fun (i : Nat) => [(0, .slice A a.length C), (1, .slice A2 b.length C2), (5, .int .i64 (i : Int))]) (fun (i : Nat) => H) (fun (i : Nat) => i ≤ a.length ∧ ∀ j, j < i → (a.getD j ⟨none, 0, []⟩).l = (b.getD j ⟨none, 0, []⟩).l) (fun (i : Nat) => a.length - i) 0 (⟨Nat.zero_le _, fun j hj => absurd hj (by omega)⟩) ⟨rfl, rfl, rfl, trivial⟩ rfl ?_
    rintro i ⟨hi, hj⟩ ihL1
    refine At.seq ?_
    refine At.seq ?_
    refine At.region ?_
    refine AtL.move (.inl rfl) rfl rfl ?_
    refine AtL.move (.inl rfl) rfl rfl ?_
    refine AtL.lenL Tryz.underlying22 (.inl rfl) rfl rfl ?_
    refine AtL.lss (.inl rfl) rfl rfl rfl ?_
    refine AtL.done ?_
    refine At.cond rfl ?_ ?_
    · intro hc2
      have hc2 : (i : Int) < (a.length : Int) := of_decide_eq_true hc2
      refine At.skip ?_
      refine At.seq ?_
      refine At.block ?_
      refine At.seq ?_
      refine At.draw (es := []) (pv := [(0, .slice A a.length C), (1, .int .i64 (i : Int)), (2, .pointer (some (eaddr A (i * tyL.sz)))), (3, .slice ((a.getD i (⟨none, 0, []⟩ : Bs)).A) ((a.getD i (⟨none, 0, []⟩ : Bs)).l).length ((a.getD i (⟨none, 0, []⟩ : Bs)).C)), (4, .slice A2 b.length C2), (5, .int .i64 (i : Int)), (6, .pointer (some (eaddr A2 (i * tyL.sz)))), (7, .slice ((b.getD i (⟨none, 0, []⟩ : Bs)).A) ((b.getD i (⟨none, 0, []⟩ : Bs)).l).length ((b.getD i (⟨none, 0, []⟩ : Bs)).C)), (8, .bool (decide ((a.getD i (⟨none, 0, []⟩ : Bs)).l = (b.getD i (⟨none, 0, []⟩ : Bs)).l))), (9, .bool (!(decide ((a.getD i (⟨none, 0, []⟩ : Bs)).l = (b.getD i (⟨none, 0, []⟩ : Bs)).l))))]) tf_mixed (by kernel_rfl) (by kernel_rfl) (by kernel_rfl) ?_
      refine ⟨⟨.inr ⟨_, rfl, rfl, .inl ⟨rfl, Do.move rfl⟩⟩, .inr ⟨_, rfl, rfl, .inl ⟨rfl, Do.move rfl⟩⟩, .inr ⟨_, rfl, rfl, .inl ⟨rfl, Do.indexL i h Tryz.underlying22 tf_sz34 rfl rfl rfl (by omega)⟩⟩, .inr ⟨_, rfl, rfl, .inl ⟨rfl, Do.load (v := .slice ((a.getD i (⟨none, 0, []⟩ : Bs)).A) ((a.getD i (⟨none, 0, []⟩ : Bs)).l).length ((a.getD i (⟨none, 0, []⟩ : Bs)).C)) tf_flat34 rfl (Rd.cell0 h (getD_some (⟨none, 0, []⟩ : Bs) (by omega)) rfl)⟩⟩, .inr ⟨_, rfl, rfl, .inl ⟨rfl, Do.move rfl⟩⟩, .inr ⟨_, rfl, rfl, .inl ⟨rfl, Do.move rfl⟩⟩, .inr ⟨_, rfl, rfl, .inl ⟨rfl, Do.indexL i h2 Tryz.underlying22 tf_sz34 rfl rfl rfl (by omega)⟩⟩, .inr ⟨_, rfl, rfl, .inl ⟨rfl, Do.load (v := .slice ((b.getD i (⟨none, 0, []⟩ : Bs)).A) ((b.getD i (⟨none, 0, []⟩ : Bs)).l).length ((b.getD i (⟨none, 0, []⟩ : Bs)).C)) tf_flat34 rfl (Rd.cell0 h2 (getD_some (⟨none, 0, []⟩ : Bs) (by omega)) rfl)⟩⟩, .inr ⟨_, rfl, rfl, .inl ⟨rfl, Do.call tf_body18 rfl (same_ok (l := (a.getD i (⟨none, 0, []⟩ : Bs)).l) (l2 := (b.getD i (⟨none, 0, []⟩ : Bs)).l) (he _ (getD_mem (l := a) (i := i) (d := (⟨none, 0, []⟩ : Bs)) (by omega))) (he2 _ (getD_mem (l := b) (i := i) (d := (⟨none, 0, []⟩ : Bs)) (by omega))))⟩⟩, .inr ⟨_, rfl, rfl, .inl ⟨rfl, Do.not rfl⟩⟩, trivial⟩, by kernel_rfl, ?_⟩
      refine At.mono (E' := [(0, .slice A a.length C), (1, .slice A2 b.length C2), (5, .int .i64 (i : Int)), (26, .bool (!(decide ((a.getD i (⟨none, 0, []⟩ : Bs)).l = (b.getD i (⟨none, 0, []⟩ : Bs)).l))))]) ⟨rfl, rfl, rfl, rfl, trivial⟩ ?_
      refine At.cond rfl ?_ ?_
      · intro hc3
        have hc3 : ¬ ((a.getD i (⟨none, 0, []⟩ : Bs)).l = (b.getD i (⟨none, 0, []⟩ : Bs)).l) := of_decide_eq_false (bnot_true hc3)
        refine At.seq ?_
        refine At.region ?_
        refine AtL.assign (.inl rfl) rfl rfl ?_
        refine AtL.done ?_
        exact At.ret Tryz.func17 rfl rfl (⟨congrArg Value.bool (decide_eq_false (fun h9 => hc3 (same_get h9 i))).symm, rfl⟩)
      · intro hc3
        have hc3 : (a.getD i (⟨none, 0, []⟩ : Bs)).l = (b.getD i (⟨none, 0, []⟩ : Bs)).l := of_decide_eq_true (bnot_false hc3)
        refine At.skip ?_
        refine At.inBlock ?_
        refine At.region ?_
        refine AtL.move (.inl rfl) rfl rfl ?_
        refine AtL.add (z := (i : Int) + 1) (.inl rfl) rfl rfl rfl (w64 (by omega) (by omega)) ?_
        refine AtL.assign (.inl rfl) rfl rfl ?_
        refine AtL.done ?_
        refine ihL1 (i + 1) (⟨by omega, fun j hj2 => (Nat.lt_succ_iff_lt_or_eq.1 hj2).elim (hj j) (fun h9 => by subst h9; exact hc3)⟩) (by omega) _ ?_
        exact ⟨rfl, rfl, (by first | rfl | exact slLen (by simp []) | exact intEq (by omega) | exact intEq (by simp []) | exact slLen (by simp []; omega)), trivial⟩
    · intro hc2
      have hc2 : ¬ ((i : Int) < (a.length : Int)) := of_decide_eq_false hc2
      refine At.exit rfl ?_
      refine At.seq ?_
      refine At.region ?_
      refine AtL.assign (.inl rfl) rfl rfl ?_
      refine AtL.done ?_
      exact At.ret Tryz.func17 rfl rfl (⟨congrArg Value.bool (decide_eq_true (same_stop (by omega) (fun j h9 => hj j (by omega)))).symm, rfl⟩)
end Go.Proofs.YtbfabhdfmoiabaaGreatDoor
namespace Go.Proofs.YtbfabhdfmoiabaaGreatDoor
set_option linter.unusedVariables false
set_option linter.unusedSimpArgs false
set_option maxRecDepth 100000
def tyGot : Ty (Int × Int × List UInt8 × List UInt8 × Int × Vs (List UInt8 × List UInt8) × Vs UInt8) := { val := fun x => .agg #[int x.1, int x.2.1, str x.2.2.1, str x.2.2.2.1, int x.2.2.2.2.1, .slice x.2.2.2.2.2.1.A x.2.2.2.2.2.1.l.length x.2.2.2.2.2.1.C, .slice x.2.2.2.2.2.2.A x.2.2.2.2.2.2.l.length x.2.2.2.2.2.2.C], sz := 7, ok := fun _ => rfl, plain := fun x c hc => by simp [int, str, Value.cells] at hc; rcases hc with rfl | rfl | rfl | rfl | rfl | rfl | rfl <;> rfl }
theorem tf_el37 : ElemOk Tryz.prog 37 44 tyGot ((0, 0, [], [], 0, ⟨none, 0, []⟩, ⟨none, 0, []⟩) : Int × Int × List UInt8 × List UInt8 × Int × Vs (List UInt8 × List UInt8) × Vs UInt8) 104 := ElemOk.of Tryz.underlying37 (by kernel_rfl) (by kernel_rfl) rfl
structure Chn where
  sl : Bool
  c : Nat
  y : Sl tyB 5
  hello : Bool
  off : Bool
  out : Bool
  gr : Bool
  sh : Bool
def Chn.ty (x : Chn) : TypeId := match x.sl with | true => 84 | false => 81
def Chn.ptr (x : Chn) : Value := .pointer (some ⟨x.c, 0, none⟩)
def Chn.v (x : Chn) : Value := .iface x.ty x.ptr
def Chn.s (x : Chn) : Seg := match x.sl with
  | true => (x.c, .cells #[.slice x.y.A x.y.l.length x.y.C, .bool x.hello, .bool x.off, .bool x.out, .bool x.gr, .bool x.sh] 87 (0, 0)) :: x.y.s
  | false => [(x.c, .cells #[.bool x.sh] 83 (0, 0))]
structure ChV where
  sl : Bool
  k : List UInt8
  hello : Bool
  off : Bool
  out : Bool
  gr : Bool
  sh : Bool
def Chn.p (x : Chn) : ChV := ⟨x.sl, x.y.l, x.hello, x.off, x.out, x.gr, x.sh⟩
def ChV.push (x : ChV) (l : List UInt8) : List UInt8 × Int × ChV := match x.sl with
  | true => ((pushS x.hello x.off x.out x.k l).out, (pushS x.hello x.off x.out x.k l).e, { x with k := (pushS x.hello x.off x.out x.k l).rest, hello := (pushS x.hello x.off x.out x.k l).h, off := (pushS x.hello x.off x.out x.k l).off, out := brokeS x.hello x.off x.out x.k l })
  | false => (l, 0, x)
def ChV.send (x : ChV) (l : List UInt8) : List UInt8 × ChV := match x.sl with
  | true => (sendF x.gr x.sh l, { x with gr := sentF true x.gr x.sh l })
  | false => (psendF x.sh l, x)
def ChV.ended (x : ChV) : Bool := match x.sl with | true => x.off | false => false
theorem perm_hd (p : Nat × Obj) (s : Seg) (H : List Seg) : ((p :: s) :: H).flatten.Perm (s :: [p] :: H).flatten := by
  simp only [List.flatten_cons, ← List.append_assoc]
  exact List.Perm.append_right _ (List.perm_append_comm (l₁ := [p]) (l₂ := s))
def Chn.fPush (x : Chn) : FuncId := match x.sl with | true => 196 | false => 190
theorem chn_m_Push (x : Chn) : ∀ w, (method (Tryz.prog.types.size + Made.depth) x.ty x.ptr "Push").run Tryz.prog w = .ok (x.fPush, x.ptr) w := by
  obtain ⟨sl, c, y, hello, off, out, gr, sh⟩ := x
  cases sl <;> (intro w; kernel_rfl)
theorem chn_b_Push (x : Chn) : Body Tryz.prog x.fPush := by
  obtain ⟨sl, c, y, hello, off, out, gr, sh⟩ := x
  cases sl
  · exact tf_body190
  · exact tf_body196
def Chn.fSend (x : Chn) : FuncId := match x.sl with | true => 197 | false => 191
theorem chn_m_Send (x : Chn) : ∀ w, (method (Tryz.prog.types.size + Made.depth) x.ty x.ptr "Send").run Tryz.prog w = .ok (x.fSend, x.ptr) w := by
  obtain ⟨sl, c, y, hello, off, out, gr, sh⟩ := x
  cases sl <;> (intro w; kernel_rfl)
theorem chn_b_Send (x : Chn) : Body Tryz.prog x.fSend := by
  obtain ⟨sl, c, y, hello, off, out, gr, sh⟩ := x
  cases sl
  · exact tf_body191
  · exact tf_body197
def Chn.fEnded (x : Chn) : FuncId := match x.sl with | true => 194 | false => 188
theorem chn_m_Ended (x : Chn) : ∀ w, (method (Tryz.prog.types.size + Made.depth) x.ty x.ptr "Ended").run Tryz.prog w = .ok (x.fEnded, x.ptr) w := by
  obtain ⟨sl, c, y, hello, off, out, gr, sh⟩ := x
  cases sl <;> (intro w; kernel_rfl)
theorem chn_b_Ended (x : Chn) : Body Tryz.prog x.fEnded := by
  obtain ⟨sl, c, y, hello, off, out, gr, sh⟩ := x
  cases sl
  · exact tf_body188
  · exact tf_body194
theorem chn_Push {w0 : World} {base : Nat} {H : List Seg} (x : Chn) {A : Option Addr} {C : Nat} {l : List UInt8} (h : Rd tyB w0 base H A C l) (hl : x.y.l.length + l.length ≤ 140737488355000) : SCalls Tryz.prog x.fPush [x.ptr, .slice A l.length C] w0 base (x.s :: H) (fun v H' => ∃ (t : Sl tyB 5) (x' : Chn), t.l = (x.p.push l).1 ∧ x'.p = (x.p.push l).2.2 ∧ x'.c = x.c ∧ v = .tuple #[.slice t.A t.l.length t.C, int (x.p.push l).2.1] ∧ H' = t.s :: x'.s :: H) := by
  obtain ⟨sl, c, y, hello, off, out, gr, sh⟩ := x
  cases sl
  · refine (ppush_ok (h.up _) (by omega)).mono ?_
    rintro v H' ⟨t, ht, rfl, rfl⟩
    exact ⟨t, ⟨false, c, y, hello, off, out, gr, sh⟩, ht, rfl, rfl, rfl, rfl⟩
  · refine SCalls.flatR (SCalls.flat (perm_hd _ _ _) (push_ok (H := H) (b := c) (y := y) (hello := hello) (off := off) (out := out) (gr := gr) (sh := sh) h hl)) ?_
    rintro v H' ⟨t, z, ht, hz, rfl, rfl⟩
    refine ⟨t.s :: Chn.s ⟨true, c, z, (pushS hello off out y.l l).h, (pushS hello off out y.l l).off, brokeS hello off out y.l l, gr, sh⟩ :: H, (List.Perm.append_left t.s (perm_hd _ _ _).symm), t, ⟨true, c, z, (pushS hello off out y.l l).h, (pushS hello off out y.l l).off, brokeS hello off out y.l l, gr, sh⟩, ht, ?_, rfl, rfl, rfl⟩
    show ChV.mk true z.l (pushS hello off out y.l l).h (pushS hello off out y.l l).off (brokeS hello off out y.l l) gr sh = ChV.mk true (pushS hello off out y.l l).rest (pushS hello off out y.l l).h (pushS hello off out y.l l).off (brokeS hello off out y.l l) gr sh
    rw [hz]
theorem chn_Send {w0 : World} {base : Nat} {H : List Seg} (x : Chn) {A : Option Addr} {C : Nat} {l : List UInt8} (h : Rd tyB w0 base H A C l) (hl : l.length ≤ 140737488355) : SCalls Tryz.prog x.fSend [x.ptr, .slice A l.length C] w0 base (x.s :: H) (fun v H' => ∃ (t : Sl tyB 5) (x' : Chn), t.l = (x.p.send l).1 ∧ x'.p = (x.p.send l).2 ∧ x'.c = x.c ∧ v = .slice t.A t.l.length t.C ∧ H' = t.s :: x'.s :: H) := by
  obtain ⟨sl, c, y, hello, off, out, gr, sh⟩ := x
  cases sl
  · refine (psend_ok (H := H) (b := c) (sh := sh) h (by omega)).mono ?_
    rintro v H' ⟨t, ht, rfl, rfl⟩
    exact ⟨t, ⟨false, c, y, hello, off, out, gr, sh⟩, ht, rfl, rfl, rfl, rfl⟩
  · refine SCalls.flatR (SCalls.flat (H' := [(c, .cells #[.slice y.A y.l.length y.C, .bool hello, .bool off, .bool out, .bool gr, .bool sh] 87 (0, 0))] :: y.s :: H) (List.Perm.of_eq (by simp [Chn.s])) (send_ok (H := y.s :: H) (Rd.skip 1 h) hl)) ?_
    rintro v H' ⟨t, ht, rfl, rfl⟩
    exact ⟨t.s :: Chn.s ⟨true, c, y, hello, off, out, sentF true gr sh l, sh⟩ :: H, List.Perm.of_eq (by simp [Chn.s]), t, ⟨true, c, y, hello, off, out, sentF true gr sh l, sh⟩, ht, rfl, rfl, rfl, rfl⟩
theorem chn_Ended {w0 : World} {base : Nat} {H : List Seg} (x : Chn) : SCalls Tryz.prog x.fEnded [x.ptr] w0 base (x.s :: H) (fun v H' => v = .bool x.p.ended ∧ H' = x.s :: H) := by
  obtain ⟨sl, c, y, hello, off, out, gr, sh⟩ := x
  cases sl
  · exact pended_ok
  · refine SCalls.flatR (SCalls.flat (H' := [(c, .cells #[.slice y.A y.l.length y.C, .bool hello, .bool off, .bool out, .bool gr, .bool sh] 87 (0, 0))] :: y.s :: H) (List.Perm.of_eq (by simp [Chn.s])) (ended_ok (H := y.s :: H))) ?_
    rintro v H' ⟨rfl, rfl⟩
    exact ⟨Chn.s ⟨true, c, y, hello, off, out, gr, sh⟩ :: H, List.Perm.of_eq (by simp [Chn.s]), rfl, rfl⟩
theorem plain_made {w0 : World} {base : Nat} {H : List Seg} : SCalls Tryz.prog 11 [] w0 base H (fun v H' => ∃ x : Chn, x.p = ⟨false, [], false, false, false, false, false⟩ ∧ v = x.v ∧ H' = x.s :: H) := by
  refine plain_ok.mono ?_
  rintro v H' ⟨b, rfl, rfl⟩
  exact ⟨⟨false, b, Sl.nil, false, false, false, false, false⟩, rfl, rfl, rfl⟩
theorem sealed_made {w0 : World} {base : Nat} {H : List Seg} : SCalls Tryz.prog 12 [] w0 base H (fun v H' => ∃ x : Chn, x.p = ⟨true, [], false, false, false, false, false⟩ ∧ v = x.v ∧ H' = x.s :: H) := by
  refine sealed_ok.mono ?_
  rintro v H' ⟨b, rfl, rfl⟩
  exact ⟨⟨true, b, Sl.nil, false, false, false, false, false⟩, rfl, rfl, rfl⟩
theorem chn_same {x y : Chn} (h : y.sl = x.sl) (hc : y.c = x.c) : x.v = y.v := by
  obtain ⟨sl, c, _, _, _, _, _, _⟩ := x
  obtain ⟨sl2, c2, _, _, _, _, _, _⟩ := y
  cases h; cases hc; rfl
theorem push_sl (x : ChV) (l : List UInt8) : (x.push l).2.2.sl = x.sl := by
  obtain ⟨sl, _, _, _, _, _, _⟩ := x; cases sl <;> rfl
theorem send_sl (x : ChV) (l : List UInt8) : (x.send l).2.sl = x.sl := by
  obtain ⟨sl, _, _, _, _, _, _⟩ := x; cases sl <;> rfl
theorem chn_push_v {x y : Chn} {l : List UInt8} (h : y.p = (x.p.push l).2.2) (hc : y.c = x.c) : x.v = y.v := chn_same (by have := congrArg ChV.sl h; rw [push_sl] at this; exact this) hc
theorem chn_send_v {x y : Chn} {l : List UInt8} (h : y.p = (x.p.send l).2) (hc : y.c = x.c) : x.v = y.v := chn_same (by have := congrArg ChV.sl h; rw [send_sl] at this; exact this) hc
theorem pushF_len (h : Bool) (l : List UInt8) : (pushF h l).out.length + (pushF h l).rest.length ≤ l.length := by
  induction l using (measure List.length).wf.induction generalizing h with
  | _ l ih =>
    rw [pushF]
    split
    · simp
    · split
      · rename_i h1 h2
        have := oneF_n h l
        simp
        omega
      · split
        · simp
        · have h1 := oneF_n h l
          have h2 := ih (l.drop (oneF h l).n) (show (l.drop (oneF h l).n).length < l.length by rw [List.length_drop]; omega) (oneF h l).h
          simp only [List.length_append, List.length_drop] at h2 ⊢
          omega
theorem chsend_len (x : ChV) (l : List UInt8) : (x.send l).1.length ≤ 4 + 4 * l.length := by
  obtain ⟨sl, k, hello, off, out, gr, sh⟩ := x
  cases sl with
  | false => show (psendF sh l).length ≤ _; rw [psendF]; split; exact Nat.zero_le _; omega
  | true =>
    show (sendF gr sh l).length ≤ _
    unfold sendF
    split
    · simp
    · have := greet_len gr
      have := recs_len l
      rw [List.length_append]; omega
theorem chpush_len (x : ChV) (l : List UInt8) : (x.push l).1.length + (x.push l).2.2.k.length ≤ x.k.length + l.length := by
  obtain ⟨sl, k, hello, off, out, gr, sh⟩ := x
  cases sl with
  | false => show l.length + k.length ≤ _; exact Nat.le_of_eq (Nat.add_comm ..)
  | true =>
    show (pushS hello off out k l).out.length + (pushS hello off out k l).rest.length ≤ k.length + l.length
    rw [pushS]
    split
    · exact Nat.le_trans (Nat.le_of_eq (Nat.zero_add _)) (Nat.le_add_right _ _)
    · have := pushF_len hello (k ++ l)
      rwa [List.length_append] at this
end Go.Proofs.YtbfabhdfmoiabaaGreatDoor
namespace Go.Proofs.YtbfabhdfmoiabaaGreatDoor
set_option linter.unusedVariables false
set_option linter.unusedSimpArgs false
set_option maxRecDepth 100000
structure Str where
  b : Nat
  ch : Chn
  sd : Bool
  client : Int
  wh : Int
  buffer : Int
  wait : Sl tyB 5
  closing : Bool
  r : Nat
  y : Sl tyB 5
  off : Nat
  lr : Int
  e : Int
  br : Bool
def Str.ptr (x : Str) : Value := .pointer (some ⟨x.b, 0, none⟩)
def Str.H (x : Str) (cl : Bool) : List Seg := [[(x.b, .cells #[x.ch.v, .bool x.sd, .int .i64 x.client, .int .i64 x.wh, .int .i64 x.buffer, .slice x.wait.A x.wait.l.length x.wait.C, .bool x.closing, .bool cl, .pointer (some ⟨x.r, 0, none⟩)] 108 (0, 0))], [(x.r, .cells #[.int .i64 65535, .bool x.br, .slice x.y.A x.y.l.length x.y.C, .int .i64 (x.off : Int), .int .i8 x.lr, .int .i64 x.e] 125 (0, 0))], x.ch.s, x.wait.s, x.y.s]
def Str.s (x : Str) : Seg := (x.H false).flatten
structure Str.ok (x : Str) : Prop where
  off : x.off ≤ x.y.l.length
  e : x.br = false → x.e = 0
def tvB (y : Sl tyB 5) : Value := .slice y.A y.l.length y.C
structure Req where
  b : Nat
  ch : Chn
  sd : Bool
  client : Int
  wh : Int
  buffer : Int
  wait : Sl tyB 5
  closing : Bool
  hr : Nat
  hs : Seg
  wb : Nat
  mb : Nat
  first : Int
  next : Int
  dn : List (Int × Sl tyB 5 × Nat)
  n : Nat
  last : Int
  behind : Int
def Req.ptr (x : Req) : Value := .pointer (some ⟨x.b, 0, none⟩)
def Req.H (x : Req) (cl : Bool) : List Seg := [[(x.b, .cells #[x.ch.v, .bool x.sd, .int .i64 x.client, .int .i64 x.wh, .int .i64 x.buffer, .slice x.wait.A x.wait.l.length x.wait.C, .bool x.closing, .bool cl, .pointer (some ⟨x.hr, 0, none⟩), .pointer (some ⟨x.wb, 0, none⟩), .int .i64 x.last, .int .i64 x.behind] 116 (0, 0))], [(x.wb, .cells #[.int .i64 16, .int .i64 x.first, .int .i64 x.next, .map (some x.mb)] 128 (0, 0))], [(x.mb, mapG kyI tvB x.dn x.n)], x.ch.s, x.wait.s, x.hs, x.dn.flatMap fun e => e.2.1.s]
def Req.s (x : Req) : Seg := (x.H false).flatten
inductive Lk
  | str (x : Str)
  | req (x : Req)
def Lk.v : Lk → Value
  | .str x => .iface 106 x.ptr
  | .req x => .iface 112 x.ptr
def Lk.s : Lk → Seg
  | .str x => x.s
  | .req x => x.s
def Lk.wh : Lk → Int
  | .str x => x.wh
  | .req x => x.wh
set_option maxHeartbeats 400000 in
theorem of_ok {w0 : World} {base : Nat} {H : List Seg} {b : Nat} :
    SCalls Tryz.prog 213 [.pointer (some ⟨b, 0, none⟩)] w0 base (H) (fun v H' => v = .pointer (some ⟨b, 0, none⟩) ∧ H' = H) := by
  refine SCalls.of_walk (n := 4) Tryz.func213 rfl rfl rfl fun cs => ?_
  refine At.seq ?_
  refine At.region ?_
  refine AtL.assign (.inl rfl) rfl rfl ?_
  refine AtL.done ?_
  refine At.seq ?_
  refine At.region ?_
  refine AtL.move (.inl rfl) rfl rfl ?_
  refine AtL.assign (.inl rfl) rfl rfl ?_
  refine AtL.done ?_
  exact At.ret Tryz.func213 rfl rfl (⟨rfl, rfl⟩)
set_option maxHeartbeats 400000 in
theorem put_str {w0 : World} {base : Nat} {H : List Seg} {b : Nat} {a0 a1 a2 a3 a6 a8 : Value} {bf : Int} {y : Sl tyB 5} {cl : Bool} {A : Option Addr} {C : Nat} {l : List UInt8} (h : Rd tyB w0 base H A C l) (hl : y.l.length + l.length ≤ 140737488355000) :
    SCalls Tryz.prog 36 [.pointer (some ⟨b, 0, none⟩), .slice A l.length C] w0 base (y.s :: [(b, .cells #[a0, a1, a2, a3, .int .i64 bf, .slice y.A y.l.length y.C, a6, .bool cl, a8] 108 (0, 0))] :: H) (fun v H' => ∃ (z : Sl tyB 5) (cl' : Bool), z.l = y.l ++ l ∧ cl' = (cl || decide (bf < (z.l.length : Int))) ∧ v = .tuple #[] ∧ H' = z.s :: [(b, .cells #[a0, a1, a2, a3, .int .i64 bf, .slice z.A z.l.length z.C, a6, .bool cl', a8] 108 (0, 0))] :: H) := by
  have hcap0 := h.cap
  have hle0 := h.le
  have hcy0 := Own.cap_le y.own
  refine SCalls.of_walk (n := 27) Tryz.func36 rfl rfl rfl fun cs => ?_
  refine At.seq ?_
  refine At.region ?_
  refine AtL.move (.inl rfl) rfl rfl ?_
  refine AtL.move (.inl rfl) rfl rfl ?_
  refine AtL.nilCheck (.inl rfl) rfl rfl ?_
  refine AtL.fieldAddrB tf_fo80_5 (.inl rfl) rfl rfl rfl ?_
  refine AtL.load tf_flat34 (.inl rfl) rfl rfl (Cell.own 1 0 rfl rfl rfl) ?_
  refine AtL.move (.inl rfl) rfl rfl ?_
  refine AtL.buildSlice (cs := [.slice y.A y.l.length y.C, .slice A l.length C]) Tryz.underlying22 tf_zero34 tf_sz34 rfl rfl (.inl rfl) rfl rfl rfl ?_
  intro b1
  refine AtL.call tf_body44 (.inl rfl) rfl rfl (concat2 (y.own.rd (i := 0) rfl) (Rd.skip 2 h) (by first | omega | (simp only [List.length_append, List.length_cons, List.length_nil]; omega) | (simp; done) | (simp; omega))) ?_
  rintro _ _ ⟨A2, C3, s4, o5, rfl, rfl⟩
  refine AtL.nilCheck (.inl rfl) rfl rfl ?_
  refine AtL.fieldAddrB tf_fo80_5 (.inl rfl) rfl rfl rfl ?_
  refine AtL.store (H' := s4 :: [(b1, .cells #[.slice y.A y.l.length y.C, .slice A l.length C] 34 (0, 0))] :: y.s :: [(b, .cells #[a0, a1, a2, a3, .int .i64 bf, .slice A2 (y.l ++ l).length C3, a6, .bool cl, a8] 108 (0, 0))] :: H) 3 0 tf_sz34 (.inl rfl) rfl rfl rfl rfl rfl rfl rfl rfl rfl ?_
  refine AtL.done ?_
  refine At.seq ?_
  refine At.draw (es := []) (pv := [(0, .pointer (some ⟨b, 0, none⟩)), (1, .pointer (some ⟨b, 0, none⟩)), (2, .pointer (some ⟨b, 5, none⟩)), (3, .slice A2 (y.l ++ l).length C3), (4, .int .i64 ((y.l ++ l).length : Int)), (5, .pointer (some ⟨b, 0, none⟩)), (6, .pointer (some ⟨b, 0, none⟩)), (7, .pointer (some ⟨b, 4, none⟩)), (8, .int .i64 bf), (9, .bool (decide (bf < ((y.l ++ l).length : Int))))]) tf_mixed (by kernel_rfl) (by kernel_rfl) (by kernel_rfl) ?_
  refine ⟨⟨.inr ⟨_, rfl, rfl, .inl ⟨rfl, Do.move rfl⟩⟩, .inr ⟨_, rfl, rfl, .inl ⟨rfl, Do.nilCheck rfl⟩⟩, .inr ⟨_, rfl, rfl, .inl ⟨rfl, Do.fieldAddrB tf_fo80_5 rfl rfl⟩⟩, .inr ⟨_, rfl, rfl, .inl ⟨rfl, Do.load tf_flat34 rfl (Cell.own 3 0 rfl rfl rfl)⟩⟩, .inr ⟨_, rfl, rfl, .inl ⟨rfl, Do.lenL Tryz.underlying34 rfl⟩⟩, .inr ⟨_, rfl, rfl, .inl ⟨rfl, Do.move rfl⟩⟩, .inr ⟨_, rfl, rfl, .inl ⟨rfl, Do.nilCheck rfl⟩⟩, .inr ⟨_, rfl, rfl, .inl ⟨rfl, Do.fieldAddrB tf_fo80_4 rfl rfl⟩⟩, .inr ⟨_, rfl, rfl, .inl ⟨rfl, Do.load tf_flat3 rfl (Cell.own 3 0 rfl rfl rfl)⟩⟩, .inr ⟨_, rfl, rfl, .inl ⟨rfl, Do.gtr rfl rfl⟩⟩, trivial⟩, by kernel_rfl, ?_⟩
  refine At.mono (E' := [(0, .pointer (some ⟨b, 0, none⟩)), (23, .bool (decide (bf < ((y.l ++ l).length : Int))))]) ⟨rfl, rfl, trivial⟩ ?_
  refine At.cond rfl ?_ ?_
  · intro hc1
    have hc1 : bf < ((y.l ++ l).length : Int) := of_decide_eq_true hc1
    refine At.region ?_
    refine AtL.move (.inl rfl) rfl rfl ?_
    refine AtL.nilCheck (.inl rfl) rfl rfl ?_
    refine AtL.fieldAddrB tf_fo80_7 (.inl rfl) rfl rfl rfl ?_
    refine AtL.store (H' := s4 :: [(b1, .cells #[.slice y.A y.l.length y.C, .slice A l.length C] 34 (0, 0))] :: y.s :: [(b, .cells #[a0, a1, a2, a3, .int .i64 bf, .slice A2 (y.l ++ l).length C3, a6, .bool true, a8] 108 (0, 0))] :: H) 3 0 tf_sz4 (.inl rfl) rfl rfl rfl rfl rfl rfl rfl rfl rfl ?_
    refine AtL.done ?_
    refine At.pick (H' := s4 :: [(b, .cells #[a0, a1, a2, a3, .int .i64 bf, .slice A2 (y.l ++ l).length C3, a6, .bool true, a8] 108 (0, 0))] :: H) [0, 3] 4 rfl rfl ?_
    exact At.end_ Tryz.func36 rfl rfl (⟨⟨A2, C3, y.l ++ l, s4, o5⟩, true, rfl, by rw [decide_eq_true hc1, Bool.or_true], rfl, rfl⟩)
  · intro hc1
    have hc1 : ¬ (bf < ((y.l ++ l).length : Int)) := of_decide_eq_false hc1
    refine At.skip ?_
    refine At.pick (H' := s4 :: [(b, .cells #[a0, a1, a2, a3, .int .i64 bf, .slice A2 (y.l ++ l).length C3, a6, .bool cl, a8] 108 (0, 0))] :: H) [0, 3] 4 rfl rfl ?_
    exact At.end_ Tryz.func36 rfl rfl (⟨⟨A2, C3, y.l ++ l, s4, o5⟩, cl, rfl, by rw [decide_eq_false hc1, Bool.or_false], rfl, rfl⟩)
end Go.Proofs.YtbfabhdfmoiabaaGreatDoor
namespace Go.Proofs.YtbfabhdfmoiabaaGreatDoor
set_option linter.unusedVariables false
set_option linter.unusedSimpArgs false
set_option maxRecDepth 100000
set_option maxHeartbeats 400000 in
theorem cnone_ok {w0 : World} {base : Nat} {H : List Seg} {c mb : Nat} {most idle buffer last : Int} (hm : ¬ most = 0) :
    SCalls Tryz.prog 31 [.pointer (some ⟨c, 0, none⟩)] w0 base ([(c, .cells #[.int .i64 most, .int .i64 idle, .int .i64 buffer, .int .i64 last, .map (some mb)] 64 (0, 0))] :: H) (fun v H' => v = .bool false ∧ H' = [(c, .cells #[.int .i64 most, .int .i64 idle, .int .i64 buffer, .int .i64 last, .map (some mb)] 64 (0, 0))] :: H) := by
  refine SCalls.of_walk (n := 12) Tryz.func31 rfl rfl rfl fun cs => ?_
  refine At.seq ?_
  refine At.region ?_
  refine AtL.assign (.inl rfl) rfl rfl ?_
  refine AtL.done ?_
  refine At.seq ?_
  refine At.region ?_
  refine AtL.move (.inl rfl) rfl rfl ?_
  refine AtL.eqPtrNil Tryz.underlying25 (.inl rfl) rfl rfl rfl ?_
  refine AtL.move (.inl rfl) rfl rfl ?_
  refine AtL.move (.inr ⟨_, _, _, rfl, rfl, rfl, rfl⟩) rfl rfl ?_
  refine AtL.nilCheck (.inr ⟨_, _, _, rfl, rfl, rfl, rfl⟩) rfl rfl ?_
  refine AtL.fieldAddrB tf_fo64_0 (.inr ⟨_, _, _, rfl, rfl, rfl, rfl⟩) rfl rfl rfl ?_
  refine AtL.load tf_flat3 (.inr ⟨_, _, _, rfl, rfl, rfl, rfl⟩) rfl rfl (Cell.own 0 0 rfl rfl rfl) ?_
  refine AtL.eqi (.inr ⟨_, _, _, rfl, rfl, rfl, rfl⟩) rfl rfl rfl ?_
  refine AtL.pickF (.inl rfl) rfl rfl rfl ?_
  refine AtL.assign (.inl rfl) rfl rfl ?_
  refine AtL.done ?_
  exact At.ret Tryz.func31 rfl rfl (⟨by rw [decide_eq_false hm]; rfl, rfl⟩)
def inT (n : Int) : Prop := 0 ≤ n ∧ n ≤ 1099511627776
instance inTDec (n : Int) : Decidable (inT n) := inferInstanceAs (Decidable (_ ∧ _))
set_option maxHeartbeats 400000 in
theorem within_ok {w0 : World} {base : Nat} {H : List Seg} (n : Int) :
    SCalls Tryz.prog 32 [.int .i64 n] w0 base (H) (fun v H' => v = .bool (decide (inT n)) ∧ H' = H) := by
  refine SCalls.of_walk (n := 9) Tryz.func32 rfl rfl rfl fun cs => ?_
  refine At.seq ?_
  refine At.region ?_
  refine AtL.assign (.inl rfl) rfl rfl ?_
  refine AtL.done ?_
  refine At.seq ?_
  refine At.region ?_
  refine AtL.move (.inl rfl) rfl rfl ?_
  refine AtL.geq (.inl rfl) rfl rfl rfl ?_
  refine AtL.move (.inl rfl) rfl rfl ?_
  refine AtL.join 3 (E' := [(8, .bool (decide ((0 ≤ (n : Int)) ∧ ((n : Int) ≤ 1099511627776))))]) (H' := H) (fun J => ?_) ?_
  · refine AtL.split (t := 5) rfl ?_ ?_
    · intro hs5
      have hs5 : 0 ≤ (n : Int) := of_decide_eq_true hs5
      refine AtL.move (.inr ⟨_, _, _, rfl, rfl, rfl, rfl⟩) rfl rfl ?_
      refine AtL.leq (.inr ⟨_, _, _, rfl, rfl, rfl, rfl⟩) rfl rfl rfl ?_
      refine AtL.pickT (.inl rfl) rfl rfl rfl ?_
      exact J _ (by exact ⟨(boolIs (by clear J; first | (simp [hs5]; done) | (simp_all; done) | grind)), trivial⟩)
    · intro hs5
      have hs5 : ¬ (0 ≤ (n : Int)) := of_decide_eq_false hs5
      refine AtL.skipped rfl rfl rfl rfl rfl rfl ?_
      refine AtL.skipped rfl rfl rfl rfl rfl rfl ?_
      refine AtL.pickF (.inl rfl) rfl rfl rfl ?_
      exact J _ (by exact ⟨(boolIs (by clear J; first | (simp [hs5]; done) | (simp_all; done) | grind)), trivial⟩)
  · skip
    refine AtL.assign (.inl rfl) rfl rfl ?_
    refine AtL.done ?_
    exact At.ret Tryz.func32 rfl rfl (⟨rfl, rfl⟩)
theorem within_yes {w0 : World} {base : Nat} {H : List Seg} {n : Int} (h : inT n) : SCalls Tryz.prog 32 [int n] w0 base H (fun v H' => v = .bool true ∧ H' = H) := by
  have h9 := within_ok (w0 := w0) (base := base) (H := H) n
  rwa [decide_eq_true h] at h9
set_option maxHeartbeats 400000 in
theorem cat_some {w0 : World} {base : Nat} {H : List Seg} {c mb : Nat} {most idle buffer last : Int} {kvs : List (Int × Lk × Nat)} {mn : Nat} {lk : Lk} (i : Int) (hm : ¬ most = 0) (hat : atG i kvs = some lk) :
    SCalls Tryz.prog 34 [.pointer (some ⟨c, 0, none⟩), .int .i64 i] w0 base ([(c, .cells #[.int .i64 most, .int .i64 idle, .int .i64 buffer, .int .i64 last, .map (some mb)] 64 (0, 0))] :: [(mb, mapG kyI Lk.v kvs mn)] :: H) (fun v H' => v = .tuple #[lk.v, int 0] ∧ H' = [(c, .cells #[.int .i64 most, .int .i64 idle, .int .i64 buffer, .int .i64 last, .map (some mb)] 64 (0, 0))] :: [(mb, mapG kyI Lk.v kvs mn)] :: H) := by
  refine SCalls.of_walk (n := 22) Tryz.func34 rfl rfl rfl fun cs => ?_
  refine At.seq ?_
  refine At.region ?_
  refine AtL.assign (.inl rfl) rfl rfl ?_
  refine AtL.assign (.inl rfl) rfl rfl ?_
  refine AtL.done ?_
  refine At.seq ?_
  refine At.seq ?_
  refine At.region ?_
  refine AtL.move (.inl rfl) rfl rfl ?_
  refine AtL.call tf_body31 (.inl rfl) rfl rfl (cnone_ok hm) ?_
  rintro _ _ ⟨rfl, rfl⟩
  refine AtL.done ?_
  refine At.condF rfl ?_
  refine At.skip ?_
  refine At.seq ?_
  refine At.region ?_
  refine AtL.move (.inl rfl) rfl rfl ?_
  refine AtL.nilCheck (.inl rfl) rfl rfl ?_
  refine AtL.fieldAddrB tf_fo64_4 (.inl rfl) rfl rfl rfl ?_
  refine AtL.load tf_flat62 (.inl rfl) rfl rfl (Cell.own 0 0 rfl rfl rfl) ?_
  refine AtL.move (.inl rfl) rfl rfl ?_
  refine AtL.lookupG (Q := kyI) (tv := Lk.v) (a := i) (v := .tuple #[lk.v, .bool true]) 1 0 Tryz.underlying62 Tryz.underlying3 rfl tf_zero77 (.inl rfl) rfl rfl rfl rfl rfl (by rw [hat]; rfl) ?_
  refine AtL.move (.inl rfl) rfl rfl ?_
  refine AtL.extract (.inl rfl) rfl rfl rfl ?_
  refine AtL.extract (.inl rfl) rfl rfl rfl ?_
  refine AtL.assign (.inl rfl) rfl rfl ?_
  refine AtL.assign (.inl rfl) rfl rfl ?_
  refine AtL.done ?_
  refine At.seq ?_
  refine At.seq ?_
  refine At.region ?_
  refine AtL.move (.inl rfl) rfl rfl ?_
  refine AtL.not (.inl rfl) rfl rfl ?_
  refine AtL.done ?_
  refine At.condF rfl ?_
  refine At.skip ?_
  refine At.seq ?_
  refine At.region ?_
  refine AtL.move (.inl rfl) rfl rfl ?_
  refine AtL.assign (.inl rfl) rfl rfl ?_
  refine AtL.assign (.inl rfl) rfl rfl ?_
  refine AtL.done ?_
  exact At.ret Tryz.func34 rfl rfl (⟨rfl, rfl⟩)
set_option maxHeartbeats 400000 in
theorem left_strD {w0 : World} {base : Nat} {H : List Seg} {c mb : Nat} {most idle buffer last : Int} {kvs : List (Int × Lk × Nat)} {mn : Nat} {x : Str} {a0 a1 a2 a3 a4 a5 a6 a8 : Value} {cl : Bool} (i : Int) (hat : atG i kvs = some (.str x)) :
    DCalls Tryz.prog 35 [.pointer (some ⟨c, 0, none⟩), .int .i64 i] w0 base ([(c, .cells #[.int .i64 most, .int .i64 idle, .int .i64 buffer, .int .i64 last, .map (some mb)] 64 (0, 0))] :: [(mb, mapG kyI Lk.v kvs mn)] :: [(x.b, .cells #[a0, a1, a2, a3, a4, a5, a6, .bool cl, a8] 108 (0, 0))] :: H) .returning (fun m' H' => m' = .returning ∧ H' = [(c, .cells #[.int .i64 most, .int .i64 idle, .int .i64 buffer, .int .i64 last, .map (some mb)] 64 (0, 0))] :: [(mb, mapG kyI Lk.v (if cl = true then delG i kvs else kvs) mn)] :: [(x.b, .cells #[a0, a1, a2, a3, a4, a5, a6, .bool cl, a8] 108 (0, 0))] :: H) := by
  refine DCalls.of_walk (n := 19) Tryz.func35 rfl rfl rfl fun fr cs => ?_
  refine At.seq ?_
  refine At.region ?_
  refine AtL.move (.inl rfl) rfl rfl ?_
  refine AtL.nilCheck (.inl rfl) rfl rfl ?_
  refine AtL.fieldAddrB tf_fo64_4 (.inl rfl) rfl rfl rfl ?_
  refine AtL.load tf_flat62 (.inl rfl) rfl rfl (Cell.own 0 0 rfl rfl rfl) ?_
  refine AtL.move (.inl rfl) rfl rfl ?_
  refine AtL.lookupG (Q := kyI) (tv := Lk.v) (a := i) (v := .iface 106 (.pointer (some ⟨x.b, 0, none⟩))) 1 0 Tryz.underlying62 Tryz.underlying3 rfl tf_zero77 (.inl rfl) rfl rfl rfl rfl rfl (by rw [hat]; rfl) ?_
  refine AtL.callI tf_body213 (.inl rfl) rfl rfl rfl (fun w => by kernel_rfl) (of_ok (b := x.b)) ?_
  rintro _ _ ⟨rfl, rfl⟩
  refine AtL.nilCheck (.inl rfl) rfl rfl ?_
  refine AtL.fieldAddrB tf_fo80_7 (.inl rfl) rfl rfl rfl ?_
  refine AtL.load tf_flat4 (.inl rfl) rfl rfl (Cell.own 2 0 rfl rfl rfl) ?_
  refine AtL.done ?_
  refine At.cond rfl ?_ ?_
  · intro hc1
    have hc1 : cl = true := hc1
    refine At.region ?_
    refine AtL.move (.inl rfl) rfl rfl ?_
    refine AtL.nilCheck (.inl rfl) rfl rfl ?_
    refine AtL.fieldAddrB tf_fo64_4 (.inl rfl) rfl rfl rfl ?_
    refine AtL.load tf_flat62 (.inl rfl) rfl rfl (Cell.own 0 0 rfl rfl rfl) ?_
    refine AtL.move (.inl rfl) rfl rfl ?_
    refine AtL.deleteG (Q := kyI) (tv := Lk.v) (a := i) (H' := [(c, .cells #[.int .i64 most, .int .i64 idle, .int .i64 buffer, .int .i64 last, .map (some mb)] 64 (0, 0))] :: [(mb, mapG kyI Lk.v (delG i kvs) mn)] :: [(x.b, .cells #[a0, a1, a2, a3, a4, a5, a6, .bool cl, a8] 108 (0, 0))] :: H) 1 0 Tryz.underlying62 Tryz.underlying3 rfl (.inl rfl) rfl rfl rfl rfl rfl rfl ?_
    refine AtL.done ?_
    refine At.endU rfl ?_
    exact Un.leftD (vs := []) Tryz.func35 rfl trivial (⟨rfl, by rw [if_pos hc1]⟩)
  · intro hc1
    have hc1 : cl = false := hc1
    refine At.skip ?_
    refine At.endU rfl ?_
    exact Un.leftD (vs := []) Tryz.func35 rfl trivial (⟨rfl, by rw [if_neg (by simpa using hc1)]⟩)
set_option maxHeartbeats 400000 in
theorem sends_ok {w0 : World} {base : Nat} {H : List Seg} {b : Nat} :
    SCalls Tryz.prog 230 [.pointer (some ⟨b, 0, none⟩)] w0 base (H) (fun v H' => v = .bool false ∧ H' = H) := by
  refine SCalls.of_walk (n := 3) Tryz.func230 rfl rfl rfl fun cs => ?_
  refine At.seq ?_
  refine At.region ?_
  refine AtL.assign (.inl rfl) rfl rfl ?_
  refine AtL.done ?_
  refine At.seq ?_
  refine At.region ?_
  refine AtL.assign (.inl rfl) rfl rfl ?_
  refine AtL.done ?_
  exact At.ret Tryz.func230 rfl rfl (⟨rfl, rfl⟩)
end Go.Proofs.YtbfabhdfmoiabaaGreatDoor
namespace Go.Proofs.YtbfabhdfmoiabaaGreatDoor
set_option linter.unusedVariables false
set_option linter.unusedSimpArgs false
set_option maxRecDepth 100000
def gotV (m : Bs) : (Int × Int × List UInt8 × List UInt8 × Int × Vs (List UInt8 × List UInt8) × Vs UInt8) := (0, 200, [], [], 0, ⟨none, 0, []⟩, ⟨m.A, m.C, m.l⟩)
theorem gots_snoc {l : List Bs} {i : Nat} (h : i < l.length) : (l.take (i + 1)).map gotV = (l.take i).map gotV ++ [gotV (l.getD i (⟨none, 0, []⟩ : Bs))] := by
  rw [List.take_succ_eq_append_getElem h, List.map_append]
  simp [List.getD, h]
structure StrV where
  ch : ChV
  sd : Bool
  client : Int
  wh : Int
  buffer : Int
  wait : List UInt8
  closing : Bool
  k : List UInt8
  br : Bool
theorem frP_keep (br : Bool) (k l : List UInt8) : (frP br 65535 k l).out.length ≤ k.length + l.length ∧ (frP br 65535 k l).rest.length ≤ k.length + l.length := by
  rw [frP]
  cases br with
  | true => rw [if_pos rfl]; exact ⟨Nat.zero_le _, Nat.le_add_right _ _⟩
  | false =>
    rw [if_neg (by simp)]
    have h := frF_keep (m := 65535) (by decide) (k ++ l)
    rw [List.length_append] at h
    exact ⟨h.2.2, h.2.1⟩
def Str.p (x : Str) : StrV := ⟨x.ch.p, x.sd, x.client, x.wh, x.buffer, x.wait.l, x.closing, x.y.l.drop x.off, x.br⟩
set_option maxHeartbeats 1000000 in
theorem sreads_ok {w0 : World} {base : Nat} {H : List Seg} {x : Str} {a0 a1 a2 a3 a4 a5 a6 a7 : Value} {A : Option Addr} {C : Nat} {l : List UInt8} (h : Rd tyB w0 base H A C l) (hyl : x.y.l.length + l.length ≤ 300000000) (hk : x.ok) :
    SCalls Tryz.prog 235 [.pointer (some ⟨x.b, 0, none⟩), .slice A l.length C] w0 base ([(x.b, .cells #[a0, a1, a2, a3, a4, a5, a6, a7, .pointer (some ⟨x.r, 0, none⟩)] 108 (0, 0))] :: [(x.r, .cells #[.int .i64 65535, .bool x.br, .slice x.y.A x.y.l.length x.y.C, .int .i64 (x.off : Int), .int .i8 x.lr, .int .i64 x.e] 125 (0, 0))] :: x.y.s :: H) (fun v H' => ∃ (o : Sl tyGot 44) (ys : List (Sl tyB 5)) (z : Sl tyB 5) (off' : Nat) (lr' : Int), o.l = ys.map (fun q => gotV q.v) ∧ ys.map (·.l) = (frP x.br 65535 (x.y.l.drop x.off) l).out ∧ off' ≤ z.l.length ∧ z.l.length ≤ x.y.l.length + l.length ∧ z.l.drop off' = (frP x.br 65535 (x.y.l.drop x.off) l).rest ∧ v = .tuple #[.slice o.A o.l.length o.C, int (if (frP x.br 65535 (x.y.l.drop x.off) l).e = 0 then 0 else 4)] ∧ H' = o.s :: segsOf ys :: z.s :: [(x.r, .cells #[.int .i64 65535, .bool (frB x.br 65535 (x.y.l.drop x.off) l), .slice z.A z.l.length z.C, .int .i64 (off' : Int), .int .i8 lr', .int .i64 (if x.br = true then x.e else (frF 65535 (x.y.l.drop x.off ++ l)).e)] 125 (0, 0))] :: [(x.b, .cells #[a0, a1, a2, a3, a4, a5, a6, a7, .pointer (some ⟨x.r, 0, none⟩)] 108 (0, 0))] :: H) := by
  have hko := hk.off
  have hke := hk.e
  have hle0 := h.le
  have hcap0 := h.cap
  refine SCalls.of_walk (n := 36) Tryz.func235 rfl rfl rfl fun cs => ?_
  refine At.seq ?_
  refine At.region ?_
  refine AtL.assign (.inl rfl) rfl rfl ?_
  refine AtL.assign (.inl rfl) rfl rfl ?_
  refine AtL.done ?_
  refine At.seq ?_
  refine At.region ?_
  refine AtL.move (.inl rfl) rfl rfl ?_
  refine AtL.nilCheck (.inl rfl) rfl rfl ?_
  refine AtL.fieldAddrB tf_fo108_1 (.inl rfl) rfl rfl rfl ?_
  refine AtL.load tf_flat103 (.inl rfl) rfl rfl (Cell.own 0 0 rfl rfl rfl) ?_
  refine AtL.move (.inl rfl) rfl rfl ?_
  refine AtL.pick (H' := x.y.s :: [(x.r, .cells #[.int .i64 65535, .bool x.br, .slice x.y.A x.y.l.length x.y.C, .int .i64 (x.off : Int), .int .i8 x.lr, .int .i64 x.e] 125 (0, 0))] :: [(x.b, .cells #[a0, a1, a2, a3, a4, a5, a6, a7, .pointer (some ⟨x.r, 0, none⟩)] 108 (0, 0))] :: H) [2, 1, 0] 3 rfl rfl ?_
  refine AtL.call tf_body216 (.inl rfl) rfl rfl (fr_push_ok (y := x.y) (off := x.off) (l := l) (Rd.skip 1 h) (by first | omega | (dsimp only; omega) | (simp [Sl.nil]; omega) | simp [Sl.nil]) (by first | omega | (dsimp only; omega) | (simp [Sl.nil]; omega) | simp [Sl.nil]) (by omega) (by first | exact fun _ => rfl | assumption | exact frB_e (fun _ => rfl) | exact frB_e (frB_e (fun _ => rfl)) | exact frB_e (frB_e (frB_e (fun _ => rfl))) | exact frB_e (by assumption))) ?_
  rintro _ _ ⟨⟨A1, C2, l3, s4, o5⟩, ys6, ⟨A7, C8, l9, s10, o11⟩, p12, lr13, h14, h15, h16, h17, h18, rfl, rfl⟩
  dsimp only at h14 h16 h17 h18
  try simp only [Sl.nil, List.length_nil, Nat.zero_add] at h17
  have hm19 : l3.map (·.l) = (frP x.br 65535 (x.y.l.drop x.off) l).out := by rw [h14, List.map_map]; exact h15
  have hm19e : l3 = [] ↔ (frP x.br 65535 (x.y.l.drop x.off) l).out = [] := by rw [← hm19]; simp
  refine AtL.move (.inl rfl) rfl rfl ?_
  refine AtL.extract (.inl rfl) rfl rfl rfl ?_
  refine AtL.extract (.inl rfl) rfl rfl rfl ?_
  refine AtL.assign (.inl rfl) rfl rfl ?_
  refine AtL.assign (.inl rfl) rfl rfl ?_
  refine AtL.done ?_
  refine At.seq ?_
  refine At.region ?_
  refine AtL.assign (.inl rfl) rfl rfl ?_
  refine AtL.done ?_
  refine At.seq ?_
  refine At.seq ?_
  refine At.region ?_
  refine AtL.move (.inl rfl) rfl rfl ?_
  refine AtL.lenL Tryz.underlying22 (.inl rfl) rfl rfl ?_
  refine AtL.move (.inl rfl) rfl rfl ?_
  refine AtL.done ?_
  refine At.block ?_
  refine At.nil ?_
  refine At.loop2 (fun (i : Nat) (o : Sl tyGot 44) => [(7, .int .i64 ((frP x.br 65535 (x.y.l.drop x.off) l).e)), (8, .slice o.A o.l.length o.C), (20, .slice A1 l3.length C2), (21, .int .i64 (l3.length : Int)), (22, .int .i64 (i : Int))]) (fun (i : Nat) (o : Sl tyGot 44) => o.s :: s4 :: segsOf ys6 :: s10 :: [(x.r, .cells #[.int .i64 65535, .bool (frB x.br 65535 (x.y.l.drop x.off) l), .slice A7 l9.length C8, .int .i64 (p12 : Int), .int .i8 lr13, .int .i64 (if x.br = true then x.e else (frF 65535 ((x.y.l.drop x.off) ++ l)).e)] 125 (0, 0))] :: [(x.b, .cells #[a0, a1, a2, a3, a4, a5, a6, a7, .pointer (some ⟨x.r, 0, none⟩)] 108 (0, 0))] :: H) (fun (i : Nat) (o : Sl tyGot 44) => i ≤ l3.length ∧ o.l = (l3.take i).map gotV) (fun (i : Nat) (o : Sl tyGot 44) => l3.length - i) 0 Sl.nil (⟨Nat.zero_le _, rfl⟩) ⟨rfl, rfl, rfl, rfl, rfl, trivial⟩ rfl ?_
  rintro i o ⟨hi, ho⟩ ihL1
  have hcnt : l3.length ≤ x.y.l.length + l.length := by have h9 := congrArg List.length hm19; rw [List.length_map] at h9; have h8 := frP_keep x.br (x.y.l.drop x.off) l; rw [List.length_drop] at h8; omega
  have hol : o.l.length = i := by rw [ho, List.length_map, List.length_take]; omega
  have hoc := Own.cap_le o.own
  refine At.seq ?_
  refine At.region ?_
  refine AtL.lss (.inl rfl) rfl rfl rfl ?_
  refine AtL.done ?_
  refine At.seq ?_
  refine At.cond rfl ?_ ?_
  · intro hc1
    have hc1 : (i : Int) < (l3.length : Int) := of_decide_eq_true hc1
    refine At.skip ?_
    refine At.seq ?_
    refine At.block ?_
    refine At.seq ?_
    refine At.region ?_
    refine AtL.indexL i (o5.rd (i := 1) rfl) Tryz.underlying22 tf_sz34 (.inl rfl) rfl rfl rfl rfl (by omega) ?_
    refine AtL.load (v := .slice ((l3.getD i (⟨none, 0, []⟩ : Bs)).A) ((l3.getD i (⟨none, 0, []⟩ : Bs)).l).length ((l3.getD i (⟨none, 0, []⟩ : Bs)).C)) tf_flat34 (.inl rfl) rfl rfl (Rd.cell0 (o5.rd (i := 1) rfl) (getD_some (⟨none, 0, []⟩ : Bs) (by omega)) rfl) ?_
    refine AtL.assign (.inl rfl) rfl rfl ?_
    refine AtL.done ?_
    refine At.region ?_
    refine AtL.move (.inl rfl) rfl rfl ?_
    refine AtL.move (.inl rfl) rfl rfl ?_
    refine AtL.build (cs := [.int .i64 0, .int .i64 200, str [], str [], .int .i64 0, .slice none 0 0, .slice ((l3.getD i (⟨none, 0, []⟩ : Bs)).A) ((l3.getD i (⟨none, 0, []⟩ : Bs)).l).length ((l3.getD i (⟨none, 0, []⟩ : Bs)).C)]) tf_lay44 (.inl rfl) rfl rfl rfl ?_
    refine AtL.buildSlice (cs := [.int .i64 0, .int .i64 200, str [], str [], .int .i64 0, .slice none 0 0, .slice ((l3.getD i (⟨none, 0, []⟩ : Bs)).A) ((l3.getD i (⟨none, 0, []⟩ : Bs)).l).length ((l3.getD i (⟨none, 0, []⟩ : Bs)).C)]) Tryz.underlying37 tf_zero44 tf_sz44 rfl rfl (.inl rfl) rfl rfl rfl ?_
    intro b20
    refine AtL.own1 tyGot (l := ([((0 : Int), (200 : Int), ([] : List UInt8), ([] : List UInt8), (0 : Int), (⟨none, 0, []⟩ : Vs (List UInt8 × List UInt8)), (⟨(l3.getD i (⟨none, 0, []⟩ : Bs)).A, (l3.getD i (⟨none, 0, []⟩ : Bs)).C, (l3.getD i (⟨none, 0, []⟩ : Bs)).l⟩ : Vs UInt8))] : List (Int × Int × List UInt8 × List UInt8 × Int × Vs (List UInt8 × List UInt8) × Vs UInt8))) rfl rfl (by first | decide | simp) ?_
    intro s21 o22
    refine AtL.append (l := o.l) (news := [((0 : Int), (200 : Int), ([] : List UInt8), ([] : List UInt8), (0 : Int), (⟨none, 0, []⟩ : Vs (List UInt8 × List UInt8)), (⟨(l3.getD i (⟨none, 0, []⟩ : Bs)).A, (l3.getD i (⟨none, 0, []⟩ : Bs)).C, (l3.getD i (⟨none, 0, []⟩ : Bs)).l⟩ : Vs UInt8))]) 1 tf_el37 rfl o.own (o22.rd (i := 0) rfl) (by first | omega | (simp only [List.length_append, List.length_cons, List.length_nil]; omega) | (simp; done) | (simp; omega)) (.inl rfl) rfl rfl rfl ?_
    intro A23 C24 s25 o26
    refine AtL.assign (.inl rfl) rfl rfl ?_
    refine AtL.done ?_
    refine At.inBlock ?_
    refine At.region ?_
    refine AtL.add (z := (i : Int) + 1) (.inl rfl) rfl rfl rfl (w64 (by omega) (by omega)) ?_
    refine AtL.move (.inl rfl) rfl rfl ?_
    refine AtL.done ?_
    refine At.pick (H' := s25 :: s4 :: segsOf ys6 :: s10 :: [(x.r, .cells #[.int .i64 65535, .bool (frB x.br 65535 (x.y.l.drop x.off) l), .slice A7 l9.length C8, .int .i64 (p12 : Int), .int .i8 lr13, .int .i64 (if x.br = true then x.e else (frF 65535 ((x.y.l.drop x.off) ++ l)).e)] 125 (0, 0))] :: [(x.b, .cells #[a0, a1, a2, a3, a4, a5, a6, a7, .pointer (some ⟨x.r, 0, none⟩)] 108 (0, 0))] :: H) [1, 2, 3, 4, 5, 6] 7 rfl rfl ?_
    refine ihL1 (i + 1) (⟨A23, C24, o.l ++ ([((0 : Int), (200 : Int), ([] : List UInt8), ([] : List UInt8), (0 : Int), (⟨none, 0, []⟩ : Vs (List UInt8 × List UInt8)), (⟨(l3.getD i (⟨none, 0, []⟩ : Bs)).A, (l3.getD i (⟨none, 0, []⟩ : Bs)).C, (l3.getD i (⟨none, 0, []⟩ : Bs)).l⟩ : Vs UInt8))]), s25, o26⟩) (⟨by omega, by dsimp only; rw [ho, gots_snoc (by omega)]; rfl⟩) (by omega) _ ?_
    exact ⟨rfl, (by first | rfl | exact slLen (by simp []) | exact intEq (by omega) | exact intEq (by simp []) | exact slLen (by simp []; omega)), rfl, rfl, (by first | rfl | exact slLen (by simp []) | exact intEq (by omega) | exact intEq (by simp []) | exact slLen (by simp []; omega)), trivial⟩
  · intro hc1
    have hc1 : ¬ ((i : Int) < (l3.length : Int)) := of_decide_eq_false hc1
    refine At.exit rfl ?_
    refine At.seq ?_
    refine At.seq ?_
    refine At.region ?_
    refine AtL.move (.inl rfl) rfl rfl ?_
    refine AtL.nei (.inl rfl) rfl rfl rfl ?_
    refine AtL.done ?_
    refine At.cond rfl ?_ ?_
    · intro hc2
      have hc2 : ¬ (((frP x.br 65535 (x.y.l.drop x.off) l).e : Int) = 0) := of_decide_eq_false (bnot_true hc2)
      refine At.seq ?_
      refine At.region ?_
      refine AtL.move (.inl rfl) rfl rfl ?_
      refine AtL.assign (.inl rfl) rfl rfl ?_
      refine AtL.assign (.inl rfl) rfl rfl ?_
      refine AtL.done ?_
      refine At.pick (H' := o.s :: segsOf ys6 :: s10 :: [(x.r, .cells #[.int .i64 65535, .bool (frB x.br 65535 (x.y.l.drop x.off) l), .slice A7 l9.length C8, .int .i64 (p12 : Int), .int .i8 lr13, .int .i64 (if x.br = true then x.e else (frF 65535 ((x.y.l.drop x.off) ++ l)).e)] 125 (0, 0))] :: [(x.b, .cells #[a0, a1, a2, a3, a4, a5, a6, a7, .pointer (some ⟨x.r, 0, none⟩)] 108 (0, 0))] :: H) [0, 2, 3, 4, 5] 6 rfl rfl ?_
      have ho9 : o.l = ys6.map fun q => gotV q.v := by rw [ho, List.take_of_length_le (by omega), h14, List.map_map]; rfl
      exact At.ret Tryz.func235 rfl rfl (⟨o, ys6, ⟨A7, C8, l9, s10, o11⟩, p12, lr13, ho9, h15, h16, h17, h18, by rw [if_neg hc2]; rfl, rfl⟩)
    · intro hc2
      have hc2 : ((frP x.br 65535 (x.y.l.drop x.off) l).e : Int) = 0 := of_decide_eq_true (bnot_false hc2)
      refine At.skip ?_
      refine At.seq ?_
      refine At.region ?_
      refine AtL.move (.inl rfl) rfl rfl ?_
      refine AtL.assign (.inl rfl) rfl rfl ?_
      refine AtL.assign (.inl rfl) rfl rfl ?_
      refine AtL.done ?_
      refine At.pick (H' := o.s :: segsOf ys6 :: s10 :: [(x.r, .cells #[.int .i64 65535, .bool (frB x.br 65535 (x.y.l.drop x.off) l), .slice A7 l9.length C8, .int .i64 (p12 : Int), .int .i8 lr13, .int .i64 (if x.br = true then x.e else (frF 65535 ((x.y.l.drop x.off) ++ l)).e)] 125 (0, 0))] :: [(x.b, .cells #[a0, a1, a2, a3, a4, a5, a6, a7, .pointer (some ⟨x.r, 0, none⟩)] 108 (0, 0))] :: H) [0, 2, 3, 4, 5] 6 rfl rfl ?_
      have ho9 : o.l = ys6.map fun q => gotV q.v := by rw [ho, List.take_of_length_le (by omega), h14, List.map_map]; rfl
      exact At.ret Tryz.func235 rfl rfl (⟨o, ys6, ⟨A7, C8, l9, s10, o11⟩, p12, lr13, ho9, h15, h16, h17, h18, by rw [if_pos (by simpa using hc2)]; rfl, rfl⟩)
def sgoE (slot : Int) (l : List UInt8) : Int := if ¬ slot = 0 then 2 else frmE l
set_option maxHeartbeats 400000 in
theorem sgoes_ok {w0 : World} {base : Nat} {H : List Seg} {b : Nat} {A : Option Addr} {C : Nat} {l : List UInt8} (slot : Int) (h : Rd tyB w0 base H A C l) (hl : l.length ≤ 1000000) :
    SCalls Tryz.prog 232 [.pointer (some ⟨b, 0, none⟩), .int .i64 slot, .slice A l.length C] w0 base (H) (fun v H' => ∃ (o : Sl tyL 34) (f : Sl tyB 5), (sgoE slot l = 0 → o.l = [f.v] ∧ f.l = frmL l) ∧ (¬ sgoE slot l = 0 → o.l = []) ∧ v = .tuple #[.slice o.A o.l.length o.C, int (sgoE slot l)] ∧ H' = o.s :: f.s :: H) := by
  have hle0 := h.le
  have hcap0 := h.cap
  refine SCalls.of_walk (n := 22) Tryz.func232 rfl rfl rfl fun cs => ?_
  refine At.seq ?_
  refine At.region ?_
  refine AtL.assign (.inl rfl) rfl rfl ?_
  refine AtL.assign (.inl rfl) rfl rfl ?_
  refine AtL.done ?_
  refine At.seq ?_
  refine At.seq ?_
  refine At.region ?_
  refine AtL.move (.inl rfl) rfl rfl ?_
  refine AtL.nei (.inl rfl) rfl rfl rfl ?_
  refine AtL.done ?_
  refine At.cond rfl ?_ ?_
  · intro hc1
    have hc1 : ¬ ((slot : Int) = 0) := of_decide_eq_false (bnot_true hc1)
    refine At.seq ?_
    refine At.region ?_
    refine AtL.assign (.inl rfl) rfl rfl ?_
    refine AtL.assign (.inl rfl) rfl rfl ?_
    refine AtL.done ?_
    refine At.nil ?_
    refine At.nil ?_
    exact At.ret Tryz.func232 rfl rfl (⟨Sl.nil, Sl.nil, fun h9 => (by rw [sgoE, if_pos hc1] at h9; exact absurd h9 (by decide)), fun h9 => rfl, (by rw [sgoE, if_pos hc1]; rfl), rfl⟩)
  · intro hc1
    have hc1 : (slot : Int) = 0 := of_decide_eq_true (bnot_false hc1)
    refine At.skip ?_
    refine At.seq ?_
    refine At.region ?_
    refine AtL.move (.inl rfl) rfl rfl ?_
    refine AtL.call tf_body236 (.inl rfl) rfl rfl (put_ok (l := l) h (by first | omega | (simp only [List.length_append, List.length_cons, List.length_nil]; omega) | (simp; done) | (simp; omega))) ?_
    rintro _ _ ⟨⟨A1, C2, l3, s4, o5⟩, hx6, rfl, rfl⟩
    obtain rfl : frmL l = l3 := hx6.symm
    refine AtL.move (.inl rfl) rfl rfl ?_
    refine AtL.extract (.inl rfl) rfl rfl rfl ?_
    refine AtL.extract (.inl rfl) rfl rfl rfl ?_
    refine AtL.assign (.inl rfl) rfl rfl ?_
    refine AtL.assign (.inl rfl) rfl rfl ?_
    refine AtL.done ?_
    refine At.seq ?_
    refine At.seq ?_
    refine At.region ?_
    refine AtL.move (.inl rfl) rfl rfl ?_
    refine AtL.nei (.inl rfl) rfl rfl rfl ?_
    refine AtL.done ?_
    refine At.cond rfl ?_ ?_
    · intro hc2
      have hc2 : ¬ ((frmE l : Int) = 0) := of_decide_eq_false (bnot_true hc2)
      refine At.seq ?_
      refine At.region ?_
      refine AtL.move (.inl rfl) rfl rfl ?_
      refine AtL.assign (.inl rfl) rfl rfl ?_
      refine AtL.assign (.inl rfl) rfl rfl ?_
      refine AtL.done ?_
      refine At.nil ?_
      refine At.nil ?_
      refine At.pick (H' := [] :: [] :: H) [0, 1] 3 rfl rfl ?_
      exact At.ret Tryz.func232 rfl rfl (⟨Sl.nil, Sl.nil, fun h9 => (by rw [sgoE, if_neg (by simpa using hc1)] at h9; exact absurd h9 hc2), fun h9 => rfl, (by rw [sgoE, if_neg (by simpa using hc1)]; rfl), rfl⟩)
    · intro hc2
      have hc2 : (frmE l : Int) = 0 := of_decide_eq_true (bnot_false hc2)
      refine At.skip ?_
      refine At.seq ?_
      refine At.region ?_
      refine AtL.move (.inl rfl) rfl rfl ?_
      refine AtL.buildSlice (cs := [.slice A1 (frmL l).length C2]) Tryz.underlying22 tf_zero34 tf_sz34 rfl rfl (.inl rfl) rfl rfl rfl ?_
      intro b7
      refine AtL.own1 tyL (l := ([(⟨A1, C2, frmL l⟩ : Bs)] : List Bs)) rfl rfl (by first | decide | simp) ?_
      intro s8 o9
      refine AtL.assign (.inl rfl) rfl rfl ?_
      refine AtL.assign (.inl rfl) rfl rfl ?_
      refine AtL.done ?_
      have h9 : sgoE slot l = 0 := by rw [sgoE, if_neg (by simpa using hc1)]; simpa using hc2
      exact At.ret Tryz.func232 rfl rfl (⟨⟨(some ⟨b7, 0, none⟩), 1, [(⟨A1, C2, frmL l⟩ : Bs)], s8, o9⟩, ⟨A1, C2, frmL l, s4, o5⟩, fun _ => ⟨rfl, rfl⟩, fun h8 => absurd h9 h8, (by rw [h9]; rfl), rfl⟩)
end Go.Proofs.YtbfabhdfmoiabaaGreatDoor
namespace Go.Proofs.YtbfabhdfmoiabaaGreatDoor
set_option linter.unusedVariables false
set_option linter.unusedSimpArgs false
set_option maxRecDepth 100000
def spushE (e2 e1 : Int) : Int := if e2 = 0 ∧ e1 = 0 then 0 else 4
def spushC (e2 e1 : Int) (en : Bool) : Bool := decide (¬ (e2 = 0 ∧ e1 = 0)) || en
def StrV.push (x : StrV) (l : List UInt8) (now : Int) : List (List UInt8) × Int × Bool × StrV :=
  ((frP x.br 65535 x.k (x.ch.push l).1).out, spushE (frP x.br 65535 x.k (x.ch.push l).1).e (x.ch.push l).2.1,
    spushC (frP x.br 65535 x.k (x.ch.push l).1).e (x.ch.push l).2.1 (x.ch.push l).2.2.ended,
    { x with ch := (x.ch.push l).2.2, wh := max x.wh now, k := (frP x.br 65535 x.k (x.ch.push l).1).rest, br := frB x.br 65535 x.k (x.ch.push l).1 })
theorem frB_ok {br : Bool} {e : Int} {k l : List UInt8} (h : br = false → e = 0) : frB br 65535 k l = false → (if br = true then e else (frF 65535 (k ++ l)).e) = 0 := by
  intro h1
  cases br with
  | true => rw [frB, if_pos rfl] at h1; cases h1
  | false =>
    rw [if_neg (by simp)]
    rw [frB, if_neg (by simp)] at h1
    exact Decidable.byContradiction fun h2 => by rw [decide_eq_true h2] at h1; cases h1
set_option maxHeartbeats 1000000 in
theorem push_str {w0 : World} {base : Nat} {H : List Seg} {c mb : Nat} {most idle buffer last : Int} {kvs : List (Int × Lk × Nat)} {mn : Nat} {x : Str} {i now : Int} {A : Option Addr} {C : Nat} {l : List UInt8} (hm : ¬ most = 0) (hat : atG i kvs = some (.str x)) (hk : x.ok) (h : Rd tyB w0 base H A C l) (hT : inT now) (hl7 : l.length ≤ 70000) (hcl : x.closing = false) (hsz : x.ch.y.l.length + x.y.l.length + l.length ≤ 200000000) :
    SCalls Tryz.prog 14 [.pointer (some ⟨c, 0, none⟩), .int .i64 i, .slice A l.length C, .int .i64 now] w0 base ([(c, .cells #[.int .i64 most, .int .i64 idle, .int .i64 buffer, .int .i64 last, .map (some mb)] 64 (0, 0))] :: [(mb, mapG kyI Lk.v kvs mn)] :: [(x.b, .cells #[x.ch.v, .bool x.sd, .int .i64 x.client, .int .i64 x.wh, .int .i64 x.buffer, .slice x.wait.A x.wait.l.length x.wait.C, .bool false, .bool false, .pointer (some ⟨x.r, 0, none⟩)] 108 (0, 0))] :: [(x.r, .cells #[.int .i64 65535, .bool x.br, .slice x.y.A x.y.l.length x.y.C, .int .i64 (x.off : Int), .int .i8 x.lr, .int .i64 x.e] 125 (0, 0))] :: x.ch.s :: x.wait.s :: x.y.s :: H) (fun v H' => ∃ (o : Sl tyGot 44) (ys : List (Sl tyB 5)) (x' : Str) (cl : Bool), o.l = ys.map (fun q => gotV q.v) ∧ ys.map (·.l) = (x.p.push l now).1 ∧ x'.p = (x.p.push l now).2.2.2 ∧ cl = (x.p.push l now).2.2.1 ∧ x'.ok ∧ x'.b = x.b ∧ x'.ch.y.l.length + x'.y.l.length ≤ x.ch.y.l.length + x.y.l.length + l.length ∧ v = .tuple #[.slice o.A o.l.length o.C, int (x.p.push l now).2.1] ∧ H' = o.s :: segsOf ys :: [(c, .cells #[.int .i64 most, .int .i64 idle, .int .i64 buffer, .int .i64 last, .map (some mb)] 64 (0, 0))] :: [(mb, mapG kyI Lk.v (if cl = true then delG i kvs else kvs) mn)] :: [(x'.b, .cells #[x'.ch.v, .bool x'.sd, .int .i64 x'.client, .int .i64 x'.wh, .int .i64 x'.buffer, .slice x'.wait.A x'.wait.l.length x'.wait.C, .bool x'.closing, .bool cl, .pointer (some ⟨x'.r, 0, none⟩)] 108 (0, 0))] :: [(x'.r, .cells #[.int .i64 65535, .bool x'.br, .slice x'.y.A x'.y.l.length x'.y.C, .int .i64 (x'.off : Int), .int .i8 x'.lr, .int .i64 x'.e] 125 (0, 0))] :: x'.ch.s :: x'.wait.s :: x'.y.s :: H) := by
  have hko := hk.off
  have hke := hk.e
  have hle0 := h.le
  have hcap0 := h.cap
  have hpl := chpush_len x.ch.p l
  have hpk : x.ch.p.k = x.ch.y.l := rfl
  rw [hpk] at hpl
  refine SCalls.of_walk (n := 91) Tryz.func14 rfl rfl rfl fun cs => ?_
  refine At.seq ?_
  refine At.region ?_
  refine AtL.assign (.inl rfl) rfl rfl ?_
  refine AtL.assign (.inl rfl) rfl rfl ?_
  refine AtL.done ?_
  refine At.seq ?_
  refine At.region ?_
  refine AtL.move (.inl rfl) rfl rfl ?_
  refine AtL.move (.inl rfl) rfl rfl ?_
  refine AtL.call tf_body34 (.inl rfl) rfl rfl (cat_some (lk := Lk.str x) i hm hat) ?_
  rintro _ _ ⟨rfl, rfl⟩
  refine AtL.move (.inl rfl) rfl rfl ?_
  refine AtL.extract (.inl rfl) rfl rfl rfl ?_
  refine AtL.extract (.inl rfl) rfl rfl rfl ?_
  refine AtL.assign (.inl rfl) rfl rfl ?_
  refine AtL.assign (.inl rfl) rfl rfl ?_
  refine AtL.done ?_
  refine At.seq ?_
  refine At.seq ?_
  refine At.region ?_
  refine AtL.move (.inl rfl) rfl rfl ?_
  refine AtL.nei (.inl rfl) rfl rfl rfl ?_
  refine AtL.done ?_
  refine At.condF rfl ?_
  refine At.skip ?_
  refine At.seq ?_
  refine At.region ?_
  refine AtL.move (.inl rfl) rfl rfl ?_
  refine AtL.callI tf_body213 (.inl rfl) rfl rfl rfl (fun w => by kernel_rfl) (of_ok (b := x.b)) ?_
  rintro _ _ ⟨rfl, rfl⟩
  refine AtL.assign (.inl rfl) rfl rfl ?_
  refine AtL.done ?_
  refine At.seq ?_
  refine At.block ?_
  refine At.seq ?_
  refine At.region ?_
  refine AtL.move (.inl rfl) rfl rfl ?_
  refine AtL.call tf_body32 (.inl rfl) rfl rfl (within_yes hT) ?_
  rintro _ _ ⟨rfl, rfl⟩
  refine AtL.not (.inl rfl) rfl rfl ?_
  refine AtL.move (.inl rfl) rfl rfl ?_
  refine AtL.move (.inr ⟨_, _, _, rfl, rfl, rfl, rfl⟩) rfl rfl ?_
  refine AtL.lenL Tryz.underlying34 (.inr ⟨_, _, _, rfl, rfl, rfl, rfl⟩) rfl rfl ?_
  refine AtL.gtr (.inr ⟨_, _, _, rfl, rfl, rfl, rfl⟩) rfl rfl rfl ?_
  refine AtL.pickF (.inl rfl) rfl rfl rfl ?_
  refine AtL.assign (.inl rfl) rfl rfl ?_
  refine AtL.done ?_
  refine At.condIs false rfl (decide_eq_false (by omega)) ?_
  refine At.seq ?_
  refine At.region ?_
  refine AtL.move (.inl rfl) rfl rfl ?_
  refine AtL.nilCheck (.inl rfl) rfl rfl ?_
  refine AtL.fieldAddrB tf_fo80_6 (.inl rfl) rfl rfl rfl ?_
  refine AtL.load tf_flat4 (.inl rfl) rfl rfl (Cell.own 2 0 rfl rfl rfl) ?_
  refine AtL.move (.inl rfl) rfl rfl ?_
  refine AtL.move (.inr ⟨_, _, _, rfl, rfl, rfl, rfl⟩) rfl rfl ?_
  refine AtL.callI tf_body230 (.inr ⟨_, _, _, rfl, rfl, rfl, rfl⟩) rfl rfl rfl (fun w => by kernel_rfl) (sends_ok (b := x.b)) ?_
  rintro _ _ ⟨rfl, rfl⟩
  refine AtL.pickF (.inl rfl) rfl rfl rfl ?_
  refine AtL.assign (.inl rfl) rfl rfl ?_
  refine AtL.done ?_
  refine At.condF rfl ?_
  refine At.skip ?_
  refine At.inBlock ?_
  refine At.seq ?_
  refine At.region ?_
  refine AtL.move (.inl rfl) rfl rfl ?_
  refine AtL.move (.inl rfl) rfl rfl ?_
  refine AtL.defer rfl (.inl rfl) rfl rfl rfl ?_
  refine AtL.done ?_
  refine At.seq ?_
  refine At.region ?_
  refine AtL.move (.inl rfl) rfl rfl ?_
  refine AtL.move (.inl rfl) rfl rfl ?_
  refine AtL.nilCheck (.inl rfl) rfl rfl ?_
  refine AtL.fieldAddrB tf_fo80_3 (.inl rfl) rfl rfl rfl ?_
  refine AtL.load tf_flat3 (.inl rfl) rfl rfl (Cell.own 2 0 rfl rfl rfl) ?_
  refine AtL.move (.inl rfl) rfl rfl ?_
  refine AtL.maxZ (z := max x.wh now) (.inl rfl) rfl rfl rfl (by omega) ?_
  refine AtL.nilCheck (.inl rfl) rfl rfl ?_
  refine AtL.fieldAddrB tf_fo80_3 (.inl rfl) rfl rfl rfl ?_
  refine AtL.store (H' := [(c, .cells #[.int .i64 most, .int .i64 idle, .int .i64 buffer, .int .i64 last, .map (some mb)] 64 (0, 0))] :: [(mb, mapG kyI Lk.v kvs mn)] :: [(x.b, .cells #[x.ch.v, .bool x.sd, .int .i64 x.client, .int .i64 (max x.wh now), .int .i64 x.buffer, .slice x.wait.A x.wait.l.length x.wait.C, .bool false, .bool false, .pointer (some ⟨x.r, 0, none⟩)] 108 (0, 0))] :: [(x.r, .cells #[.int .i64 65535, .bool x.br, .slice x.y.A x.y.l.length x.y.C, .int .i64 (x.off : Int), .int .i8 x.lr, .int .i64 x.e] 125 (0, 0))] :: x.ch.s :: x.wait.s :: x.y.s :: H) 2 0 tf_sz3 (.inl rfl) rfl rfl rfl rfl rfl rfl rfl rfl rfl ?_
  refine AtL.done ?_
  refine At.seq ?_
  refine At.region ?_
  refine AtL.move (.inl rfl) rfl rfl ?_
  refine AtL.nilCheck (.inl rfl) rfl rfl ?_
  refine AtL.fieldAddrB tf_fo80_0 (.inl rfl) rfl rfl rfl ?_
  refine AtL.load tf_flat32 (.inl rfl) rfl rfl (Cell.own 2 0 rfl rfl rfl) ?_
  refine AtL.move (.inl rfl) rfl rfl ?_
  refine AtL.pick (H' := x.ch.s :: [(c, .cells #[.int .i64 most, .int .i64 idle, .int .i64 buffer, .int .i64 last, .map (some mb)] 64 (0, 0))] :: [(mb, mapG kyI Lk.v kvs mn)] :: [(x.b, .cells #[x.ch.v, .bool x.sd, .int .i64 x.client, .int .i64 (max x.wh now), .int .i64 x.buffer, .slice x.wait.A x.wait.l.length x.wait.C, .bool false, .bool false, .pointer (some ⟨x.r, 0, none⟩)] 108 (0, 0))] :: [(x.r, .cells #[.int .i64 65535, .bool x.br, .slice x.y.A x.y.l.length x.y.C, .int .i64 (x.off : Int), .int .i8 x.lr, .int .i64 x.e] 125 (0, 0))] :: x.wait.s :: x.y.s :: H) [4, 0, 1, 2, 3, 5, 6] 7 rfl rfl ?_
  refine AtL.callI (chn_b_Push x.ch) (.inl rfl) rfl rfl rfl (chn_m_Push x.ch) (chn_Push x.ch (l := l) (Rd.skip 6 h) (by omega)) ?_
  rintro _ _ ⟨t1, ch2, ht3, hp4, hc5, rfl, rfl⟩
  have t1n : t1.l.length ≤ x.ch.y.l.length + l.length := by have h9 := chpush_len x.ch.p l; rw [ht3]; have h8 : x.ch.p.k = x.ch.y.l := rfl; rw [h8] at h9; omega
  try rw [chn_push_v hp4 hc5]
  refine AtL.move (.inl rfl) rfl rfl ?_
  refine AtL.extract (.inl rfl) rfl rfl rfl ?_
  refine AtL.extract (.inl rfl) rfl rfl rfl ?_
  refine AtL.assign (.inl rfl) rfl rfl ?_
  refine AtL.assign (.inl rfl) rfl rfl ?_
  refine AtL.done ?_
  refine At.seq ?_
  refine At.region ?_
  refine AtL.move (.inl rfl) rfl rfl ?_
  refine AtL.move (.inl rfl) rfl rfl ?_
  refine AtL.pick (H' := [(x.b, .cells #[ch2.v, .bool x.sd, .int .i64 x.client, .int .i64 (max x.wh now), .int .i64 x.buffer, .slice x.wait.A x.wait.l.length x.wait.C, .bool false, .bool false, .pointer (some ⟨x.r, 0, none⟩)] 108 (0, 0))] :: [(x.r, .cells #[.int .i64 65535, .bool x.br, .slice x.y.A x.y.l.length x.y.C, .int .i64 (x.off : Int), .int .i8 x.lr, .int .i64 x.e] 125 (0, 0))] :: x.y.s :: t1.s :: ch2.s :: [(c, .cells #[.int .i64 most, .int .i64 idle, .int .i64 buffer, .int .i64 last, .map (some mb)] 64 (0, 0))] :: [(mb, mapG kyI Lk.v kvs mn)] :: x.wait.s :: H) [4, 5, 7, 0, 1, 2, 3, 6] 8 rfl rfl ?_
  refine AtL.callI tf_body235 (.inl rfl) rfl rfl rfl (fun w => by kernel_rfl) (sreads_ok (x := x) (l := t1.l) (t1.own.rd (i := 0) rfl) (by omega) hk) ?_
  rintro _ _ ⟨o6, ys7, z8, of9, lr10, ho11, hys12, hof13, hzl14, hzr15, rfl, rfl⟩
  refine AtL.move (.inl rfl) rfl rfl ?_
  refine AtL.extract (.inl rfl) rfl rfl rfl ?_
  refine AtL.extract (.inl rfl) rfl rfl rfl ?_
  refine AtL.assign (.inl rfl) rfl rfl ?_
  refine AtL.assign (.inl rfl) rfl rfl ?_
  refine AtL.done ?_
  refine At.seq ?_
  refine At.seq ?_
  refine At.region ?_
  refine AtL.move (.inl rfl) rfl rfl ?_
  refine AtL.nei (.inl rfl) rfl rfl rfl ?_
  refine AtL.move (.inl rfl) rfl rfl ?_
  refine AtL.join 3 (E' := [(76, .bool (decide ((¬ (((x.ch.p.push l).2.1 : Int) = 0)) ∧ (((if (frP x.br 65535 (x.y.l.drop x.off) t1.l).e = 0 then 0 else 4) : Int) = 0)))), (12, .pointer (some ⟨x.b, 0, none⟩)), (14, .slice o6.A o6.l.length o6.C), (15, .int .i64 (if (frP x.br 65535 (x.y.l.drop x.off) t1.l).e = 0 then 0 else 4))]) (H' := o6.s :: segsOf ys7 :: z8.s :: [(x.r, .cells #[.int .i64 65535, .bool (frB x.br 65535 (x.y.l.drop x.off) t1.l), .slice z8.A z8.l.length z8.C, .int .i64 (of9 : Int), .int .i8 lr10, .int .i64 (if x.br = true then x.e else (frF 65535 (x.y.l.drop x.off ++ t1.l)).e)] 125 (0, 0))] :: [(x.b, .cells #[ch2.v, .bool x.sd, .int .i64 x.client, .int .i64 (max x.wh now), .int .i64 x.buffer, .slice x.wait.A x.wait.l.length x.wait.C, .bool false, .bool false, .pointer (some ⟨x.r, 0, none⟩)] 108 (0, 0))] :: t1.s :: ch2.s :: [(c, .cells #[.int .i64 most, .int .i64 idle, .int .i64 buffer, .int .i64 last, .map (some mb)] 64 (0, 0))] :: [(mb, mapG kyI Lk.v kvs mn)] :: x.wait.s :: H) (fun J => ?_) ?_
  · refine AtL.split (t := 73) rfl ?_ ?_
    · intro hs73
      have hs73 : ¬ (((x.ch.p.push l).2.1 : Int) = 0) := of_decide_eq_false (bnot_true hs73)
      refine AtL.move (.inr ⟨_, _, _, rfl, rfl, rfl, rfl⟩) rfl rfl ?_
      refine AtL.eqi (.inr ⟨_, _, _, rfl, rfl, rfl, rfl⟩) rfl rfl rfl ?_
      refine AtL.pickT (.inl rfl) rfl rfl rfl ?_
      exact J _ (by exact ⟨(boolIs (by clear J; first | (simp [hs73]; done) | (simp_all; done) | grind)), rfl, rfl, rfl, trivial⟩)
    · intro hs73
      have hs73 : ((x.ch.p.push l).2.1 : Int) = 0 := of_decide_eq_true (bnot_false hs73)
      refine AtL.skipped rfl rfl rfl rfl rfl rfl ?_
      refine AtL.skipped rfl rfl rfl rfl rfl rfl ?_
      refine AtL.pickF (.inl rfl) rfl rfl rfl ?_
      exact J _ (by exact ⟨(boolIs (by clear J; first | (simp [hs73]; done) | (simp_all; done) | grind)), rfl, rfl, rfl, trivial⟩)
  · skip
    refine AtL.done ?_
    refine At.cond rfl ?_ ?_
    · intro hc4
      have hc4 : (¬ (((x.ch.p.push l).2.1 : Int) = 0)) ∧ (((if (frP x.br 65535 (x.y.l.drop x.off) t1.l).e = 0 then 0 else 4) : Int) = 0) := of_decide_eq_true hc4
      refine At.region ?_
      refine AtL.assign (.inl rfl) rfl rfl ?_
      refine AtL.done ?_
      refine At.seq ?_
      refine At.seq ?_
      refine At.region ?_
      refine AtL.move (.inl rfl) rfl rfl ?_
      refine AtL.nei (.inl rfl) rfl rfl rfl ?_
      refine AtL.move (.inl rfl) rfl rfl ?_
      refine AtL.skipped rfl rfl rfl rfl rfl rfl ?_
      refine AtL.skipped rfl rfl rfl rfl rfl rfl ?_
      refine AtL.skipped rfl rfl rfl rfl rfl rfl ?_
      refine AtL.skipped rfl rfl rfl rfl rfl rfl ?_
      refine AtL.skipped rfl rfl rfl rfl rfl rfl ?_
      refine AtL.pickT (.inl rfl) rfl rfl rfl ?_
      refine AtL.done ?_
      refine At.condT rfl ?_
      refine At.region ?_
      refine AtL.move (.inl rfl) rfl rfl ?_
      refine AtL.nilCheck (.inl rfl) rfl rfl ?_
      refine AtL.fieldAddrB tf_fo80_7 (.inl rfl) rfl rfl rfl ?_
      refine AtL.store (H' := o6.s :: segsOf ys7 :: z8.s :: [(x.r, .cells #[.int .i64 65535, .bool (frB x.br 65535 (x.y.l.drop x.off) t1.l), .slice z8.A z8.l.length z8.C, .int .i64 (of9 : Int), .int .i8 lr10, .int .i64 (if x.br = true then x.e else (frF 65535 (x.y.l.drop x.off ++ t1.l)).e)] 125 (0, 0))] :: [(x.b, .cells #[ch2.v, .bool x.sd, .int .i64 x.client, .int .i64 (max x.wh now), .int .i64 x.buffer, .slice x.wait.A x.wait.l.length x.wait.C, .bool false, .bool true, .pointer (some ⟨x.r, 0, none⟩)] 108 (0, 0))] :: t1.s :: ch2.s :: [(c, .cells #[.int .i64 most, .int .i64 idle, .int .i64 buffer, .int .i64 last, .map (some mb)] 64 (0, 0))] :: [(mb, mapG kyI Lk.v kvs mn)] :: x.wait.s :: H) 4 0 tf_sz4 (.inl rfl) rfl rfl rfl rfl rfl rfl rfl rfl rfl ?_
      refine AtL.done ?_
      refine At.seq ?_
      refine At.region ?_
      refine AtL.move (.inl rfl) rfl rfl ?_
      refine AtL.move (.inl rfl) rfl rfl ?_
      refine AtL.assign (.inl rfl) rfl rfl ?_
      refine AtL.assign (.inl rfl) rfl rfl ?_
      refine AtL.done ?_
      refine At.retU rfl ?_
      refine Un.pick (H' := [(c, .cells #[.int .i64 most, .int .i64 idle, .int .i64 buffer, .int .i64 last, .map (some mb)] 64 (0, 0))] :: [(mb, mapG kyI Lk.v kvs mn)] :: [(x.b, .cells #[ch2.v, .bool x.sd, .int .i64 x.client, .int .i64 (max x.wh now), .int .i64 x.buffer, .slice x.wait.A x.wait.l.length x.wait.C, .bool false, .bool true, .pointer (some ⟨x.r, 0, none⟩)] 108 (0, 0))] :: o6.s :: segsOf ys7 :: z8.s :: [(x.r, .cells #[.int .i64 65535, .bool (frB x.br 65535 (x.y.l.drop x.off) t1.l), .slice z8.A z8.l.length z8.C, .int .i64 (of9 : Int), .int .i8 lr10, .int .i64 (if x.br = true then x.e else (frF 65535 (x.y.l.drop x.off ++ t1.l)).e)] 125 (0, 0))] :: t1.s :: ch2.s :: x.wait.s :: H) [7, 8, 4, 0, 1, 2, 3, 5, 6, 9] 10 rfl rfl ?_
      refine Un.defer tf_body35 rfl rfl (left_strD (cl := true) (kvs := kvs) i hat) ?_
      rintro _ _ ⟨rfl, rfl⟩
      have hR9 : frP x.br 65535 x.p.k (x.p.ch.push l).1 = frP x.br 65535 (x.y.l.drop x.off) t1.l := by rw [ht3]; rfl
      exact Un.leftP (vs := [.slice o6.A o6.l.length o6.C, .int .i64 4]) (H2 := o6.s :: segsOf ys7 :: [(c, .cells #[.int .i64 most, .int .i64 idle, .int .i64 buffer, .int .i64 last, .map (some mb)] 64 (0, 0))] :: [(mb, mapG kyI Lk.v (if true = true then delG i kvs else kvs) mn)] :: [(x.b, .cells #[ch2.v, .bool x.sd, .int .i64 x.client, .int .i64 (max x.wh now), .int .i64 x.buffer, .slice x.wait.A x.wait.l.length x.wait.C, .bool false, .bool true, .pointer (some ⟨x.r, 0, none⟩)] 108 (0, 0))] :: [(x.r, .cells #[.int .i64 65535, .bool (frB x.br 65535 (x.y.l.drop x.off) t1.l), .slice z8.A z8.l.length z8.C, .int .i64 (of9 : Int), .int .i8 lr10, .int .i64 (if x.br = true then x.e else (frF 65535 (x.y.l.drop x.off ++ t1.l)).e)] 125 (0, 0))] :: ch2.s :: x.wait.s :: z8.s :: H) [3, 4, 0, 1, 2, 6, 8, 9, 5] 10 rfl rfl Tryz.func14 rfl ⟨rfl, rfl, trivial⟩ (⟨o6, ys7, (⟨x.b, ch2, x.sd, x.client, max x.wh now, x.buffer, x.wait, false, x.r, z8, of9, lr10, (if x.br = true then x.e else (frF 65535 (x.y.l.drop x.off ++ t1.l)).e), (frB x.br 65535 (x.y.l.drop x.off) t1.l)⟩ : Str), true, ho11, by rw [hys12, ht3]; rfl, by simp only [Str.p, StrV.push, hcl, hp4, hzr15, ht3], (by show _ = spushC (frP x.br 65535 x.p.k (x.p.ch.push l).1).e (x.ch.p.push l).2.1 (x.ch.p.push l).2.2.ended; rw [hR9, ← hp4]; unfold spushC; grind), ⟨hof13, by rw [← ht3] at *; exact frB_ok hk.e⟩, rfl, by have h9 := chpush_len x.ch.p l; rw [← hp4, ← ht3] at h9; have h8 : x.ch.p.k = x.ch.y.l := rfl; have h7 : ch2.p.k = ch2.y.l := rfl; rw [h8, h7] at h9; dsimp only; omega, (by rw [show (x.p.push l now).2.1 = 4 from by show spushE (frP x.br 65535 x.p.k (x.p.ch.push l).1).e (x.ch.p.push l).2.1 = _; rw [hR9]; unfold spushE; grind]; rfl), rfl⟩)
    · intro hc4
      have hc4 : ¬ ((¬ (((x.ch.p.push l).2.1 : Int) = 0)) ∧ (((if (frP x.br 65535 (x.y.l.drop x.off) t1.l).e = 0 then 0 else 4) : Int) = 0)) := of_decide_eq_false hc4
      refine At.skip ?_
      refine At.seq ?_
      refine At.seq ?_
      refine At.region ?_
      refine AtL.move (.inl rfl) rfl rfl ?_
      refine AtL.nei (.inl rfl) rfl rfl rfl ?_
      refine AtL.move (.inl rfl) rfl rfl ?_
      refine AtL.join 6 (E' := [(85, .bool (decide ((¬ (((if (frP x.br 65535 (x.y.l.drop x.off) t1.l).e = 0 then 0 else 4) : Int) = 0)) ∨ (ch2.p.ended = true)))), (12, .pointer (some ⟨x.b, 0, none⟩)), (14, .slice o6.A o6.l.length o6.C), (15, .int .i64 (if (frP x.br 65535 (x.y.l.drop x.off) t1.l).e = 0 then 0 else 4))]) (H' := o6.s :: segsOf ys7 :: z8.s :: [(x.r, .cells #[.int .i64 65535, .bool (frB x.br 65535 (x.y.l.drop x.off) t1.l), .slice z8.A z8.l.length z8.C, .int .i64 (of9 : Int), .int .i8 lr10, .int .i64 (if x.br = true then x.e else (frF 65535 (x.y.l.drop x.off ++ t1.l)).e)] 125 (0, 0))] :: [(x.b, .cells #[ch2.v, .bool x.sd, .int .i64 x.client, .int .i64 (max x.wh now), .int .i64 x.buffer, .slice x.wait.A x.wait.l.length x.wait.C, .bool false, .bool false, .pointer (some ⟨x.r, 0, none⟩)] 108 (0, 0))] :: t1.s :: ch2.s :: [(c, .cells #[.int .i64 most, .int .i64 idle, .int .i64 buffer, .int .i64 last, .map (some mb)] 64 (0, 0))] :: [(mb, mapG kyI Lk.v kvs mn)] :: x.wait.s :: H) (fun J => ?_) ?_
      · refine AtL.split (t := 79) rfl ?_ ?_
        · intro hs79
          have hs79 : ¬ (((if (frP x.br 65535 (x.y.l.drop x.off) t1.l).e = 0 then 0 else 4) : Int) = 0) := of_decide_eq_false (bnot_true hs79)
          refine AtL.skipped rfl rfl rfl rfl rfl rfl ?_
          refine AtL.skipped rfl rfl rfl rfl rfl rfl ?_
          refine AtL.skipped rfl rfl rfl rfl rfl rfl ?_
          refine AtL.skipped rfl rfl rfl rfl rfl rfl ?_
          refine AtL.skipped rfl rfl rfl rfl rfl rfl ?_
          refine AtL.pickT (.inl rfl) rfl rfl rfl ?_
          exact J _ (by exact ⟨(boolIs (by clear J; first | (simp [hs79]; done) | (simp_all; done) | grind)), rfl, rfl, rfl, trivial⟩)
        · intro hs79
          have hs79 : ((if (frP x.br 65535 (x.y.l.drop x.off) t1.l).e = 0 then 0 else 4) : Int) = 0 := of_decide_eq_true (bnot_false hs79)
          refine AtL.move (.inr ⟨_, _, _, rfl, rfl, rfl, rfl⟩) rfl rfl ?_
          refine AtL.nilCheck (.inr ⟨_, _, _, rfl, rfl, rfl, rfl⟩) rfl rfl ?_
          refine AtL.fieldAddrB tf_fo80_0 (.inr ⟨_, _, _, rfl, rfl, rfl, rfl⟩) rfl rfl rfl ?_
          refine AtL.load tf_flat32 (.inr ⟨_, _, _, rfl, rfl, rfl, rfl⟩) rfl rfl (Cell.own 4 0 rfl rfl rfl) ?_
          refine AtL.pick (H' := ch2.s :: o6.s :: segsOf ys7 :: z8.s :: [(x.r, .cells #[.int .i64 65535, .bool (frB x.br 65535 (x.y.l.drop x.off) t1.l), .slice z8.A z8.l.length z8.C, .int .i64 (of9 : Int), .int .i8 lr10, .int .i64 (if x.br = true then x.e else (frF 65535 (x.y.l.drop x.off ++ t1.l)).e)] 125 (0, 0))] :: [(x.b, .cells #[ch2.v, .bool x.sd, .int .i64 x.client, .int .i64 (max x.wh now), .int .i64 x.buffer, .slice x.wait.A x.wait.l.length x.wait.C, .bool false, .bool false, .pointer (some ⟨x.r, 0, none⟩)] 108 (0, 0))] :: t1.s :: [(c, .cells #[.int .i64 most, .int .i64 idle, .int .i64 buffer, .int .i64 last, .map (some mb)] 64 (0, 0))] :: [(mb, mapG kyI Lk.v kvs mn)] :: x.wait.s :: H) [6, 0, 1, 2, 3, 4, 5, 7, 8, 9] 10 rfl rfl ?_
          refine AtL.callI (chn_b_Ended ch2) (.inr ⟨_, _, _, rfl, rfl, rfl, rfl⟩) rfl rfl rfl (chn_m_Ended ch2) (chn_Ended ch2) ?_
          rintro _ _ ⟨rfl, rfl⟩
          refine AtL.pickF (.inl rfl) rfl rfl rfl ?_
          refine AtL.pick (H' := o6.s :: segsOf ys7 :: z8.s :: [(x.r, .cells #[.int .i64 65535, .bool (frB x.br 65535 (x.y.l.drop x.off) t1.l), .slice z8.A z8.l.length z8.C, .int .i64 (of9 : Int), .int .i8 lr10, .int .i64 (if x.br = true then x.e else (frF 65535 (x.y.l.drop x.off ++ t1.l)).e)] 125 (0, 0))] :: [(x.b, .cells #[ch2.v, .bool x.sd, .int .i64 x.client, .int .i64 (max x.wh now), .int .i64 x.buffer, .slice x.wait.A x.wait.l.length x.wait.C, .bool false, .bool false, .pointer (some ⟨x.r, 0, none⟩)] 108 (0, 0))] :: t1.s :: ch2.s :: [(c, .cells #[.int .i64 most, .int .i64 idle, .int .i64 buffer, .int .i64 last, .map (some mb)] 64 (0, 0))] :: [(mb, mapG kyI Lk.v kvs mn)] :: x.wait.s :: H) [1, 2, 3, 4, 5, 6, 0, 7, 8, 9] 10 rfl rfl ?_
          exact J _ (by exact ⟨(boolIs (by clear J; first | (simp [hs79]; done) | (simp_all; done) | grind)), rfl, rfl, rfl, trivial⟩)
      · skip
        refine AtL.done ?_
        refine At.cond rfl ?_ ?_
        · intro hc5
          have hc5 : (¬ (((if (frP x.br 65535 (x.y.l.drop x.off) t1.l).e = 0 then 0 else 4) : Int) = 0)) ∨ (ch2.p.ended = true) := of_decide_eq_true hc5
          refine At.region ?_
          refine AtL.move (.inl rfl) rfl rfl ?_
          refine AtL.nilCheck (.inl rfl) rfl rfl ?_
          refine AtL.fieldAddrB tf_fo80_7 (.inl rfl) rfl rfl rfl ?_
          refine AtL.store (H' := o6.s :: segsOf ys7 :: z8.s :: [(x.r, .cells #[.int .i64 65535, .bool (frB x.br 65535 (x.y.l.drop x.off) t1.l), .slice z8.A z8.l.length z8.C, .int .i64 (of9 : Int), .int .i8 lr10, .int .i64 (if x.br = true then x.e else (frF 65535 (x.y.l.drop x.off ++ t1.l)).e)] 125 (0, 0))] :: [(x.b, .cells #[ch2.v, .bool x.sd, .int .i64 x.client, .int .i64 (max x.wh now), .int .i64 x.buffer, .slice x.wait.A x.wait.l.length x.wait.C, .bool false, .bool true, .pointer (some ⟨x.r, 0, none⟩)] 108 (0, 0))] :: t1.s :: ch2.s :: [(c, .cells #[.int .i64 most, .int .i64 idle, .int .i64 buffer, .int .i64 last, .map (some mb)] 64 (0, 0))] :: [(mb, mapG kyI Lk.v kvs mn)] :: x.wait.s :: H) 4 0 tf_sz4 (.inl rfl) rfl rfl rfl rfl rfl rfl rfl rfl rfl ?_
          refine AtL.done ?_
          refine At.seq ?_
          refine At.region ?_
          refine AtL.move (.inl rfl) rfl rfl ?_
          refine AtL.move (.inl rfl) rfl rfl ?_
          refine AtL.assign (.inl rfl) rfl rfl ?_
          refine AtL.assign (.inl rfl) rfl rfl ?_
          refine AtL.done ?_
          refine At.retU rfl ?_
          refine Un.pick (H' := [(c, .cells #[.int .i64 most, .int .i64 idle, .int .i64 buffer, .int .i64 last, .map (some mb)] 64 (0, 0))] :: [(mb, mapG kyI Lk.v kvs mn)] :: [(x.b, .cells #[ch2.v, .bool x.sd, .int .i64 x.client, .int .i64 (max x.wh now), .int .i64 x.buffer, .slice x.wait.A x.wait.l.length x.wait.C, .bool false, .bool true, .pointer (some ⟨x.r, 0, none⟩)] 108 (0, 0))] :: o6.s :: segsOf ys7 :: z8.s :: [(x.r, .cells #[.int .i64 65535, .bool (frB x.br 65535 (x.y.l.drop x.off) t1.l), .slice z8.A z8.l.length z8.C, .int .i64 (of9 : Int), .int .i8 lr10, .int .i64 (if x.br = true then x.e else (frF 65535 (x.y.l.drop x.off ++ t1.l)).e)] 125 (0, 0))] :: t1.s :: ch2.s :: x.wait.s :: H) [7, 8, 4, 0, 1, 2, 3, 5, 6, 9] 10 rfl rfl ?_
          refine Un.defer tf_body35 rfl rfl (left_strD (cl := true) (kvs := kvs) i hat) ?_
          rintro _ _ ⟨rfl, rfl⟩
          have hR9 : frP x.br 65535 x.p.k (x.p.ch.push l).1 = frP x.br 65535 (x.y.l.drop x.off) t1.l := by rw [ht3]; rfl
          exact Un.leftP (vs := [.slice o6.A o6.l.length o6.C, .int .i64 (if (frP x.br 65535 (x.y.l.drop x.off) t1.l).e = 0 then 0 else 4)]) (H2 := o6.s :: segsOf ys7 :: [(c, .cells #[.int .i64 most, .int .i64 idle, .int .i64 buffer, .int .i64 last, .map (some mb)] 64 (0, 0))] :: [(mb, mapG kyI Lk.v (if true = true then delG i kvs else kvs) mn)] :: [(x.b, .cells #[ch2.v, .bool x.sd, .int .i64 x.client, .int .i64 (max x.wh now), .int .i64 x.buffer, .slice x.wait.A x.wait.l.length x.wait.C, .bool false, .bool true, .pointer (some ⟨x.r, 0, none⟩)] 108 (0, 0))] :: [(x.r, .cells #[.int .i64 65535, .bool (frB x.br 65535 (x.y.l.drop x.off) t1.l), .slice z8.A z8.l.length z8.C, .int .i64 (of9 : Int), .int .i8 lr10, .int .i64 (if x.br = true then x.e else (frF 65535 (x.y.l.drop x.off ++ t1.l)).e)] 125 (0, 0))] :: ch2.s :: x.wait.s :: z8.s :: H) [3, 4, 0, 1, 2, 6, 8, 9, 5] 10 rfl rfl Tryz.func14 rfl ⟨rfl, rfl, trivial⟩ (⟨o6, ys7, (⟨x.b, ch2, x.sd, x.client, max x.wh now, x.buffer, x.wait, false, x.r, z8, of9, lr10, (if x.br = true then x.e else (frF 65535 (x.y.l.drop x.off ++ t1.l)).e), (frB x.br 65535 (x.y.l.drop x.off) t1.l)⟩ : Str), true, ho11, by rw [hys12, ht3]; rfl, by simp only [Str.p, StrV.push, hcl, hp4, hzr15, ht3], (by show _ = spushC (frP x.br 65535 x.p.k (x.p.ch.push l).1).e (x.ch.p.push l).2.1 (x.ch.p.push l).2.2.ended; rw [hR9, ← hp4]; unfold spushC; grind), ⟨hof13, by rw [← ht3] at *; exact frB_ok hk.e⟩, rfl, by have h9 := chpush_len x.ch.p l; rw [← hp4, ← ht3] at h9; have h8 : x.ch.p.k = x.ch.y.l := rfl; have h7 : ch2.p.k = ch2.y.l := rfl; rw [h8, h7] at h9; dsimp only; omega, (by rw [show (x.p.push l now).2.1 = (if (frP x.br 65535 (x.y.l.drop x.off) t1.l).e = 0 then 0 else 4) from by show spushE (frP x.br 65535 x.p.k (x.p.ch.push l).1).e (x.ch.p.push l).2.1 = _; rw [hR9]; unfold spushE; grind]; rfl), rfl⟩)
        · intro hc5
          have hc5 : ¬ ((¬ (((if (frP x.br 65535 (x.y.l.drop x.off) t1.l).e = 0 then 0 else 4) : Int) = 0)) ∨ (ch2.p.ended = true)) := of_decide_eq_false hc5
          refine At.skip ?_
          refine At.seq ?_
          refine At.region ?_
          refine AtL.move (.inl rfl) rfl rfl ?_
          refine AtL.move (.inl rfl) rfl rfl ?_
          refine AtL.assign (.inl rfl) rfl rfl ?_
          refine AtL.assign (.inl rfl) rfl rfl ?_
          refine AtL.done ?_
          refine At.retU rfl ?_
          refine Un.pick (H' := [(c, .cells #[.int .i64 most, .int .i64 idle, .int .i64 buffer, .int .i64 last, .map (some mb)] 64 (0, 0))] :: [(mb, mapG kyI Lk.v kvs mn)] :: [(x.b, .cells #[ch2.v, .bool x.sd, .int .i64 x.client, .int .i64 (max x.wh now), .int .i64 x.buffer, .slice x.wait.A x.wait.l.length x.wait.C, .bool false, .bool false, .pointer (some ⟨x.r, 0, none⟩)] 108 (0, 0))] :: o6.s :: segsOf ys7 :: z8.s :: [(x.r, .cells #[.int .i64 65535, .bool (frB x.br 65535 (x.y.l.drop x.off) t1.l), .slice z8.A z8.l.length z8.C, .int .i64 (of9 : Int), .int .i8 lr10, .int .i64 (if x.br = true then x.e else (frF 65535 (x.y.l.drop x.off ++ t1.l)).e)] 125 (0, 0))] :: t1.s :: ch2.s :: x.wait.s :: H) [7, 8, 4, 0, 1, 2, 3, 5, 6, 9] 10 rfl rfl ?_
          refine Un.defer tf_body35 rfl rfl (left_strD (cl := false) (kvs := kvs) i hat) ?_
          rintro _ _ ⟨rfl, rfl⟩
          have hR9 : frP x.br 65535 x.p.k (x.p.ch.push l).1 = frP x.br 65535 (x.y.l.drop x.off) t1.l := by rw [ht3]; rfl
          exact Un.leftP (vs := [.slice o6.A o6.l.length o6.C, .int .i64 (if (frP x.br 65535 (x.y.l.drop x.off) t1.l).e = 0 then 0 else 4)]) (H2 := o6.s :: segsOf ys7 :: [(c, .cells #[.int .i64 most, .int .i64 idle, .int .i64 buffer, .int .i64 last, .map (some mb)] 64 (0, 0))] :: [(mb, mapG kyI Lk.v (if false = true then delG i kvs else kvs) mn)] :: [(x.b, .cells #[ch2.v, .bool x.sd, .int .i64 x.client, .int .i64 (max x.wh now), .int .i64 x.buffer, .slice x.wait.A x.wait.l.length x.wait.C, .bool false, .bool false, .pointer (some ⟨x.r, 0, none⟩)] 108 (0, 0))] :: [(x.r, .cells #[.int .i64 65535, .bool (frB x.br 65535 (x.y.l.drop x.off) t1.l), .slice z8.A z8.l.length z8.C, .int .i64 (of9 : Int), .int .i8 lr10, .int .i64 (if x.br = true then x.e else (frF 65535 (x.y.l.drop x.off ++ t1.l)).e)] 125 (0, 0))] :: ch2.s :: x.wait.s :: z8.s :: H) [3, 4, 0, 1, 2, 6, 8, 9, 5] 10 rfl rfl Tryz.func14 rfl ⟨rfl, rfl, trivial⟩ (⟨o6, ys7, (⟨x.b, ch2, x.sd, x.client, max x.wh now, x.buffer, x.wait, false, x.r, z8, of9, lr10, (if x.br = true then x.e else (frF 65535 (x.y.l.drop x.off ++ t1.l)).e), (frB x.br 65535 (x.y.l.drop x.off) t1.l)⟩ : Str), false, ho11, by rw [hys12, ht3]; rfl, by simp only [Str.p, StrV.push, hcl, hp4, hzr15, ht3], (by show _ = spushC (frP x.br 65535 x.p.k (x.p.ch.push l).1).e (x.ch.p.push l).2.1 (x.ch.p.push l).2.2.ended; rw [hR9, ← hp4]; unfold spushC; grind), ⟨hof13, by rw [← ht3] at *; exact frB_ok hk.e⟩, rfl, by have h9 := chpush_len x.ch.p l; rw [← hp4, ← ht3] at h9; have h8 : x.ch.p.k = x.ch.y.l := rfl; have h7 : ch2.p.k = ch2.y.l := rfl; rw [h8, h7] at h9; dsimp only; omega, (by rw [show (x.p.push l now).2.1 = (if (frP x.br 65535 (x.y.l.drop x.off) t1.l).e = 0 then 0 else 4) from by show spushE (frP x.br 65535 x.p.k (x.p.ch.push l).1).e (x.ch.p.push l).2.1 = _; rw [hR9]; unfold spushE; grind]; rfl), rfl⟩)
end Go.Proofs.YtbfabhdfmoiabaaGreatDoor
namespace Go.Proofs.YtbfabhdfmoiabaaGreatDoor
set_option linter.unusedVariables false
set_option linter.unusedSimpArgs false
set_option maxRecDepth 100000
def StrV.take (x : StrV) (m : Nat) (now : Int) : List UInt8 × Bool × StrV :=
  (x.wait.take m, x.closing && decide ((x.wait.drop m).length = 0), { x with wait := x.wait.drop m, wh := if 0 < min m x.wait.length then max x.wh now else x.wh })
def StrV.answer (x : StrV) (slot : Int) (l : List UInt8) : Int × Bool × StrV :=
  if sgoE slot l = 0 then (if x.buffer < ((x.wait ++ (x.ch.send (frmL l)).1).length : Int) then 3 else 0, decide (x.buffer < ((x.wait ++ (x.ch.send (frmL l)).1).length : Int)), { x with ch := (x.ch.send (frmL l)).2, wait := x.wait ++ (x.ch.send (frmL l)).1 })
  else (sgoE slot l, false, x)
theorem take_min (l : List UInt8) (m : Nat) : l.take (min m l.length) = l.take m := by
  rcases Nat.le_total m l.length with h | h
  · rw [Nat.min_eq_left h]
  · rw [Nat.min_eq_right h, List.take_of_length_le h, List.take_length]
theorem drop_min (l : List UInt8) (m : Nat) : l.drop (min m l.length) = l.drop m := by
  rcases Nat.le_total m l.length with h | h
  · rw [Nat.min_eq_left h]
  · rw [Nat.min_eq_right h, List.drop_eq_nil_of_le h, List.drop_length]
set_option maxHeartbeats 1000000 in
theorem take_str {w0 : World} {base : Nat} {H : List Seg} {c mb : Nat} {most idle buffer last : Int} {kvs : List (Int × Lk × Nat)} {mn : Nat} {x : Str} {i : Int} (hm : ¬ most = 0) (hat : atG i kvs = some (.str x)) (hk : x.ok) {now : Int} (m : Nat) (hT : inT now) (hw : x.wait.l.length ≤ 1073741824) :
    SCalls Tryz.prog 16 [.pointer (some ⟨c, 0, none⟩), .int .i64 i, .int .i64 (m : Int), .int .i64 now] w0 base ([(c, .cells #[.int .i64 most, .int .i64 idle, .int .i64 buffer, .int .i64 last, .map (some mb)] 64 (0, 0))] :: [(mb, mapG kyI Lk.v kvs mn)] :: [(x.b, .cells #[x.ch.v, .bool x.sd, .int .i64 x.client, .int .i64 x.wh, .int .i64 x.buffer, .slice x.wait.A x.wait.l.length x.wait.C, .bool x.closing, .bool false, .pointer (some ⟨x.r, 0, none⟩)] 108 (0, 0))] :: [(x.r, .cells #[.int .i64 65535, .bool x.br, .slice x.y.A x.y.l.length x.y.C, .int .i64 (x.off : Int), .int .i8 x.lr, .int .i64 x.e] 125 (0, 0))] :: x.ch.s :: x.wait.s :: x.y.s :: H) (fun v H' => ∃ (o : Sl tyB 5) (x' : Str) (cl : Bool), o.l = (x.p.take m now).1 ∧ x'.ok ∧ x'.p = (x.p.take m now).2.2 ∧ cl = (x.p.take m now).2.1 ∧ (x'.b = x.b ∧ x'.y = x.y) ∧ v = .tuple #[.slice o.A o.l.length o.C, int 0] ∧ H' = o.s :: [(c, .cells #[.int .i64 most, .int .i64 idle, .int .i64 buffer, .int .i64 last, .map (some mb)] 64 (0, 0))] :: [(mb, mapG kyI Lk.v (if cl = true then delG i kvs else kvs) mn)] :: [(x'.b, .cells #[x'.ch.v, .bool x'.sd, .int .i64 x'.client, .int .i64 x'.wh, .int .i64 x'.buffer, .slice x'.wait.A x'.wait.l.length x'.wait.C, .bool x'.closing, .bool cl, .pointer (some ⟨x'.r, 0, none⟩)] 108 (0, 0))] :: [(x'.r, .cells #[.int .i64 65535, .bool x'.br, .slice x'.y.A x'.y.l.length x'.y.C, .int .i64 (x'.off : Int), .int .i8 x'.lr, .int .i64 x'.e] 125 (0, 0))] :: x'.ch.s :: x'.wait.s :: x'.y.s :: H) := by
  have hcw := Own.cap_le x.wait.own
  refine SCalls.of_walk (n := 87) Tryz.func16 rfl rfl rfl fun cs => ?_
  refine At.seq ?_
  refine At.region ?_
  refine AtL.assign (.inl rfl) rfl rfl ?_
  refine AtL.assign (.inl rfl) rfl rfl ?_
  refine AtL.done ?_
  refine At.seq ?_
  refine At.region ?_
  refine AtL.move (.inl rfl) rfl rfl ?_
  refine AtL.move (.inl rfl) rfl rfl ?_
  refine AtL.call tf_body34 (.inl rfl) rfl rfl (cat_some (lk := Lk.str x) i hm hat) ?_
  rintro _ _ ⟨rfl, rfl⟩
  refine AtL.move (.inl rfl) rfl rfl ?_
  refine AtL.extract (.inl rfl) rfl rfl rfl ?_
  refine AtL.extract (.inl rfl) rfl rfl rfl ?_
  refine AtL.assign (.inl rfl) rfl rfl ?_
  refine AtL.assign (.inl rfl) rfl rfl ?_
  refine AtL.done ?_
  refine At.seq ?_
  refine At.block ?_
  refine At.seq ?_
  refine At.region ?_
  refine AtL.move (.inl rfl) rfl rfl ?_
  refine AtL.nei (.inl rfl) rfl rfl rfl ?_
  refine AtL.assign (.inl rfl) rfl rfl ?_
  refine AtL.done ?_
  refine At.condF rfl ?_
  refine At.seq ?_
  refine At.region ?_
  refine AtL.move (.inl rfl) rfl rfl ?_
  refine AtL.lss (.inl rfl) rfl rfl rfl ?_
  refine AtL.move (.inl rfl) rfl rfl ?_
  refine AtL.join 4 (E' := [(32, .bool (decide ((m : Int) < 0))), (0, .pointer (some ⟨c, 0, none⟩)), (1, .int .i64 i), (2, .int .i64 (m : Int)), (3, .int .i64 now), (10, .iface 106 (.pointer (some ⟨x.b, 0, none⟩)))]) (H' := [(c, .cells #[.int .i64 most, .int .i64 idle, .int .i64 buffer, .int .i64 last, .map (some mb)] 64 (0, 0))] :: [(mb, mapG kyI Lk.v kvs mn)] :: [(x.b, .cells #[x.ch.v, .bool x.sd, .int .i64 x.client, .int .i64 x.wh, .int .i64 x.buffer, .slice x.wait.A x.wait.l.length x.wait.C, .bool x.closing, .bool false, .pointer (some ⟨x.r, 0, none⟩)] 108 (0, 0))] :: [(x.r, .cells #[.int .i64 65535, .bool x.br, .slice x.y.A x.y.l.length x.y.C, .int .i64 (x.off : Int), .int .i8 x.lr, .int .i64 x.e] 125 (0, 0))] :: x.ch.s :: x.wait.s :: x.y.s :: H) (fun J => ?_) ?_
  · refine AtL.split (t := 28) rfl ?_ ?_
    · intro hs28
      have hs28 : (m : Int) < 0 := of_decide_eq_true hs28
      refine AtL.skipped rfl rfl rfl rfl rfl rfl ?_
      refine AtL.skipped rfl rfl rfl rfl rfl rfl ?_
      refine AtL.skipped rfl rfl rfl rfl rfl rfl ?_
      refine AtL.pickT (.inl rfl) rfl rfl rfl ?_
      exact J _ (by exact ⟨(boolIs (by clear J; first | (simp [hs28]; done) | (simp_all; done) | grind)), rfl, rfl, rfl, rfl, rfl, trivial⟩)
    · intro hs28
      have hs28 : ¬ ((m : Int) < 0) := of_decide_eq_false hs28
      refine AtL.move (.inr ⟨_, _, _, rfl, rfl, rfl, rfl⟩) rfl rfl ?_
      refine AtL.call tf_body32 (.inr ⟨_, _, _, rfl, rfl, rfl, rfl⟩) rfl rfl (within_yes hT) ?_
      rintro _ _ ⟨rfl, rfl⟩
      refine AtL.not (.inr ⟨_, _, _, rfl, rfl, rfl, rfl⟩) rfl rfl ?_
      refine AtL.pickF (.inl rfl) rfl rfl rfl ?_
      exact J _ (by exact ⟨(boolIs (by clear J; first | (simp [hs28]; done) | (simp_all; done) | grind)), rfl, rfl, rfl, rfl, rfl, trivial⟩)
  · skip
    refine AtL.assign (.inl rfl) rfl rfl ?_
    refine AtL.done ?_
    refine At.cond rfl ?_ ?_
    · intro hc2
      have hc2 : (m : Int) < 0 := of_decide_eq_true hc2
      exfalso; omega
    · intro hc2
      have hc2 : ¬ ((m : Int) < 0) := of_decide_eq_false hc2
      refine At.skip ?_
      refine At.inBlock ?_
      refine At.seq ?_
      refine At.region ?_
      refine AtL.move (.inl rfl) rfl rfl ?_
      refine AtL.move (.inl rfl) rfl rfl ?_
      refine AtL.defer rfl (.inl rfl) rfl rfl rfl ?_
      refine AtL.done ?_
      refine At.seq ?_
      refine At.region ?_
      refine AtL.move (.inl rfl) rfl rfl ?_
      refine AtL.callI tf_body213 (.inl rfl) rfl rfl rfl (fun w => by kernel_rfl) (of_ok (b := x.b)) ?_
      rintro _ _ ⟨rfl, rfl⟩
      refine AtL.assign (.inl rfl) rfl rfl ?_
      refine AtL.done ?_
      refine At.seq ?_
      refine At.region ?_
      refine AtL.move (.inl rfl) rfl rfl ?_
      refine AtL.move (.inl rfl) rfl rfl ?_
      refine AtL.nilCheck (.inl rfl) rfl rfl ?_
      refine AtL.fieldAddrB tf_fo80_5 (.inl rfl) rfl rfl rfl ?_
      refine AtL.load tf_flat34 (.inl rfl) rfl rfl (Cell.own 2 0 rfl rfl rfl) ?_
      refine AtL.lenL Tryz.underlying34 (.inl rfl) rfl rfl ?_
      refine AtL.minZ (z := ((min m x.wait.l.length : Nat) : Int)) (.inl rfl) rfl rfl rfl (by omega) ?_
      refine AtL.assign (.inl rfl) rfl rfl ?_
      refine AtL.done ?_
      refine At.seq ?_
      refine At.region ?_
      refine AtL.move (.inl rfl) rfl rfl ?_
      refine AtL.nilCheck (.inl rfl) rfl rfl ?_
      refine AtL.fieldAddrB tf_fo80_5 (.inl rfl) rfl rfl rfl ?_
      refine AtL.load tf_flat34 (.inl rfl) rfl rfl (Cell.own 2 0 rfl rfl rfl) ?_
      refine AtL.move (.inl rfl) rfl rfl ?_
      have hleo3 := Own.le_cap x.wait.own
      refine AtL.sliceO 0 (min m x.wait.l.length : Nat) x.wait.C x.wait.own rfl (evBound_some rfl rfl) rfl (by intro h; cases h) (by omega) (by omega) (by omega) (Nat.le_refl _) Tryz.underlying34 tf_sz5 (.inl rfl) rfl rfl ?_
      intro A1 C2 o3
      clear hleo3
      have hlo3 : (subl x.wait.l 0 (min m x.wait.l.length : Nat)).length = (min m x.wait.l.length : Nat) - 0 := subl_len (by omega)
      refine AtL.call tf_body38 (.inl rfl) rfl rfl (clone_ok (l := subl x.wait.l 0 (min m x.wait.l.length : Nat)) (o3.rd (i := 5) rfl) (by first | omega | (simp only [List.length_append, List.length_cons, List.length_nil]; omega) | (simp; done) | (simp; omega))) ?_
      rintro _ _ ⟨⟨A4, C5, l6, s7, o8⟩, hx9, rfl, rfl⟩
      obtain rfl : subl x.wait.l 0 (min m x.wait.l.length : Nat) = l6 := hx9.symm
      refine AtL.assign (.inl rfl) rfl rfl ?_
      refine AtL.done ?_
      refine At.seq ?_
      refine At.region ?_
      refine AtL.move (.inl rfl) rfl rfl ?_
      refine AtL.move (.inl rfl) rfl rfl ?_
      refine AtL.nilCheck (.inl rfl) rfl rfl ?_
      refine AtL.fieldAddrB tf_fo80_5 (.inl rfl) rfl rfl rfl ?_
      refine AtL.load tf_flat34 (.inl rfl) rfl rfl (Cell.own 3 0 rfl rfl rfl) ?_
      refine AtL.move (.inl rfl) rfl rfl ?_
      have hleo12 := Own.le_cap x.wait.own
      refine AtL.sliceO (min m x.wait.l.length : Nat) x.wait.l.length x.wait.C x.wait.own (evBound_some rfl rfl) rfl rfl (by intro h; cases h) (by omega) (by omega) (by omega) (Nat.le_refl _) Tryz.underlying34 tf_sz5 (.inl rfl) rfl rfl ?_
      intro A10 C11 o12
      clear hleo12
      have hlo12 : (subl x.wait.l (min m x.wait.l.length : Nat) x.wait.l.length).length = x.wait.l.length - (min m x.wait.l.length : Nat) := subl_len (by omega)
      refine AtL.nilCheck (.inl rfl) rfl rfl ?_
      refine AtL.fieldAddrB tf_fo80_5 (.inl rfl) rfl rfl rfl ?_
      refine AtL.store (H' := s7 :: [(c, .cells #[.int .i64 most, .int .i64 idle, .int .i64 buffer, .int .i64 last, .map (some mb)] 64 (0, 0))] :: [(mb, mapG kyI Lk.v kvs mn)] :: [(x.b, .cells #[x.ch.v, .bool x.sd, .int .i64 x.client, .int .i64 x.wh, .int .i64 x.buffer, .slice A10 (subl x.wait.l (min m x.wait.l.length : Nat) x.wait.l.length).length C11, .bool x.closing, .bool false, .pointer (some ⟨x.r, 0, none⟩)] 108 (0, 0))] :: [(x.r, .cells #[.int .i64 65535, .bool x.br, .slice x.y.A x.y.l.length x.y.C, .int .i64 (x.off : Int), .int .i8 x.lr, .int .i64 x.e] 125 (0, 0))] :: x.ch.s :: x.wait.s :: x.y.s :: H) 3 0 tf_sz34 (.inl rfl) rfl rfl rfl rfl rfl rfl rfl rfl rfl ?_
      refine AtL.done ?_
      refine At.seq ?_
      refine At.seq ?_
      refine At.region ?_
      refine AtL.move (.inl rfl) rfl rfl ?_
      refine AtL.gtr (.inl rfl) rfl rfl rfl ?_
      refine AtL.done ?_
      refine At.cond rfl ?_ ?_
      · intro hc3
        have hc3 : 0 < ((min m x.wait.l.length : Nat) : Int) := of_decide_eq_true hc3
        refine At.region ?_
        refine AtL.move (.inl rfl) rfl rfl ?_
        refine AtL.move (.inl rfl) rfl rfl ?_
        refine AtL.nilCheck (.inl rfl) rfl rfl ?_
        refine AtL.fieldAddrB tf_fo80_3 (.inl rfl) rfl rfl rfl ?_
        refine AtL.load tf_flat3 (.inl rfl) rfl rfl (Cell.own 3 0 rfl rfl rfl) ?_
        refine AtL.move (.inl rfl) rfl rfl ?_
        refine AtL.maxZ (z := max x.wh now) (.inl rfl) rfl rfl rfl (by omega) ?_
        refine AtL.nilCheck (.inl rfl) rfl rfl ?_
        refine AtL.fieldAddrB tf_fo80_3 (.inl rfl) rfl rfl rfl ?_
        refine AtL.store (H' := s7 :: [(c, .cells #[.int .i64 most, .int .i64 idle, .int .i64 buffer, .int .i64 last, .map (some mb)] 64 (0, 0))] :: [(mb, mapG kyI Lk.v kvs mn)] :: [(x.b, .cells #[x.ch.v, .bool x.sd, .int .i64 x.client, .int .i64 (max x.wh now), .int .i64 x.buffer, .slice A10 (subl x.wait.l (min m x.wait.l.length : Nat) x.wait.l.length).length C11, .bool x.closing, .bool false, .pointer (some ⟨x.r, 0, none⟩)] 108 (0, 0))] :: [(x.r, .cells #[.int .i64 65535, .bool x.br, .slice x.y.A x.y.l.length x.y.C, .int .i64 (x.off : Int), .int .i8 x.lr, .int .i64 x.e] 125 (0, 0))] :: x.ch.s :: x.wait.s :: x.y.s :: H) 3 0 tf_sz3 (.inl rfl) rfl rfl rfl rfl rfl rfl rfl rfl rfl ?_
        refine AtL.done ?_
        refine At.seq ?_
        refine At.seq ?_
        refine At.region ?_
        refine AtL.move (.inl rfl) rfl rfl ?_
        refine AtL.nilCheck (.inl rfl) rfl rfl ?_
        refine AtL.fieldAddrB tf_fo80_6 (.inl rfl) rfl rfl rfl ?_
        refine AtL.load tf_flat4 (.inl rfl) rfl rfl (Cell.own 3 0 rfl rfl rfl) ?_
        refine AtL.move (.inl rfl) rfl rfl ?_
        refine AtL.join 7 (E' := [(82, .bool (decide ((x.closing = true) ∧ (((subl x.wait.l (min m x.wait.l.length : Nat) x.wait.l.length).length : Int) = 0)))), (12, .pointer (some ⟨x.b, 0, none⟩)), (14, .slice A4 (subl x.wait.l 0 (min m x.wait.l.length : Nat)).length C5)]) (H' := s7 :: [(c, .cells #[.int .i64 most, .int .i64 idle, .int .i64 buffer, .int .i64 last, .map (some mb)] 64 (0, 0))] :: [(mb, mapG kyI Lk.v kvs mn)] :: [(x.b, .cells #[x.ch.v, .bool x.sd, .int .i64 x.client, .int .i64 (max x.wh now), .int .i64 x.buffer, .slice A10 (subl x.wait.l (min m x.wait.l.length : Nat) x.wait.l.length).length C11, .bool x.closing, .bool false, .pointer (some ⟨x.r, 0, none⟩)] 108 (0, 0))] :: [(x.r, .cells #[.int .i64 65535, .bool x.br, .slice x.y.A x.y.l.length x.y.C, .int .i64 (x.off : Int), .int .i8 x.lr, .int .i64 x.e] 125 (0, 0))] :: x.ch.s :: x.wait.s :: x.y.s :: H) (fun J => ?_) ?_
        · refine AtL.split (t := 75) rfl ?_ ?_
          · intro hs75
            have hs75 : x.closing = true := hs75
            refine AtL.move (.inr ⟨_, _, _, rfl, rfl, rfl, rfl⟩) rfl rfl ?_
            refine AtL.nilCheck (.inr ⟨_, _, _, rfl, rfl, rfl, rfl⟩) rfl rfl ?_
            refine AtL.fieldAddrB tf_fo80_5 (.inr ⟨_, _, _, rfl, rfl, rfl, rfl⟩) rfl rfl rfl ?_
            refine AtL.load tf_flat34 (.inr ⟨_, _, _, rfl, rfl, rfl, rfl⟩) rfl rfl (Cell.own 3 0 rfl rfl rfl) ?_
            refine AtL.lenL Tryz.underlying34 (.inr ⟨_, _, _, rfl, rfl, rfl, rfl⟩) rfl rfl ?_
            refine AtL.eqi (.inr ⟨_, _, _, rfl, rfl, rfl, rfl⟩) rfl rfl rfl ?_
            refine AtL.pickT (.inl rfl) rfl rfl rfl ?_
            exact J _ (by exact ⟨(boolIs (by clear J; first | (simp [hs75]; done) | (simp_all; done) | grind)), rfl, rfl, trivial⟩)
          · intro hs75
            have hs75 : x.closing = false := hs75
            refine AtL.skipped rfl rfl rfl rfl rfl rfl ?_
            refine AtL.skipped rfl rfl rfl rfl rfl rfl ?_
            refine AtL.skipped rfl rfl rfl rfl rfl rfl ?_
            refine AtL.skipped rfl rfl rfl rfl rfl rfl ?_
            refine AtL.skipped rfl rfl rfl rfl rfl rfl ?_
            refine AtL.skipped rfl rfl rfl rfl rfl rfl ?_
            refine AtL.pickF (.inl rfl) rfl rfl rfl ?_
            exact J _ (by exact ⟨(boolIs (by clear J; first | (simp [hs75]; done) | (simp_all; done) | grind)), rfl, rfl, trivial⟩)
        · skip
          refine AtL.done ?_
          refine At.cond rfl ?_ ?_
          · intro hc4
            have hc4 : (x.closing = true) ∧ (((subl x.wait.l (min m x.wait.l.length : Nat) x.wait.l.length).length : Int) = 0) := of_decide_eq_true hc4
            refine At.region ?_
            refine AtL.move (.inl rfl) rfl rfl ?_
            refine AtL.nilCheck (.inl rfl) rfl rfl ?_
            refine AtL.fieldAddrB tf_fo80_7 (.inl rfl) rfl rfl rfl ?_
            refine AtL.store (H' := s7 :: [(c, .cells #[.int .i64 most, .int .i64 idle, .int .i64 buffer, .int .i64 last, .map (some mb)] 64 (0, 0))] :: [(mb, mapG kyI Lk.v kvs mn)] :: [(x.b, .cells #[x.ch.v, .bool x.sd, .int .i64 x.client, .int .i64 (max x.wh now), .int .i64 x.buffer, .slice A10 (subl x.wait.l (min m x.wait.l.length : Nat) x.wait.l.length).length C11, .bool x.closing, .bool true, .pointer (some ⟨x.r, 0, none⟩)] 108 (0, 0))] :: [(x.r, .cells #[.int .i64 65535, .bool x.br, .slice x.y.A x.y.l.length x.y.C, .int .i64 (x.off : Int), .int .i8 x.lr, .int .i64 x.e] 125 (0, 0))] :: x.ch.s :: x.wait.s :: x.y.s :: H) 3 0 tf_sz4 (.inl rfl) rfl rfl rfl rfl rfl rfl rfl rfl rfl ?_
            refine AtL.done ?_
            refine At.seq ?_
            refine At.region ?_
            refine AtL.move (.inl rfl) rfl rfl ?_
            refine AtL.assign (.inl rfl) rfl rfl ?_
            refine AtL.assign (.inl rfl) rfl rfl ?_
            refine AtL.done ?_
            refine At.retU rfl ?_
            refine Un.pick (H' := [(c, .cells #[.int .i64 most, .int .i64 idle, .int .i64 buffer, .int .i64 last, .map (some mb)] 64 (0, 0))] :: [(mb, mapG kyI Lk.v kvs mn)] :: [(x.b, .cells #[x.ch.v, .bool x.sd, .int .i64 x.client, .int .i64 (max x.wh now), .int .i64 x.buffer, .slice A10 (subl x.wait.l (min m x.wait.l.length : Nat) x.wait.l.length).length C11, .bool x.closing, .bool true, .pointer (some ⟨x.r, 0, none⟩)] 108 (0, 0))] :: s7 :: [(x.r, .cells #[.int .i64 65535, .bool x.br, .slice x.y.A x.y.l.length x.y.C, .int .i64 (x.off : Int), .int .i8 x.lr, .int .i64 x.e] 125 (0, 0))] :: x.ch.s :: x.wait.s :: x.y.s :: H) [1, 2, 3, 0, 4, 5, 6, 7] 8 rfl rfl ?_
            refine Un.defer tf_body35 rfl rfl (left_strD (cl := true) (kvs := kvs) i hat) ?_
            rintro _ _ ⟨rfl, rfl⟩
            have hkl : (min m x.wait.l.length) = (min m x.wait.l.length) := rfl
            exact Un.leftP (vs := [.slice A4 (subl x.wait.l 0 (min m x.wait.l.length : Nat)).length C5, .int .i64 0]) (H2 := s7 :: [(c, .cells #[.int .i64 most, .int .i64 idle, .int .i64 buffer, .int .i64 last, .map (some mb)] 64 (0, 0))] :: [(mb, mapG kyI Lk.v (if true = true then delG i kvs else kvs) mn)] :: [(x.b, .cells #[x.ch.v, .bool x.sd, .int .i64 x.client, .int .i64 (max x.wh now), .int .i64 x.buffer, .slice A10 (subl x.wait.l (min m x.wait.l.length : Nat) x.wait.l.length).length C11, .bool x.closing, .bool true, .pointer (some ⟨x.r, 0, none⟩)] 108 (0, 0))] :: [(x.r, .cells #[.int .i64 65535, .bool x.br, .slice x.y.A x.y.l.length x.y.C, .int .i64 (x.off : Int), .int .i8 x.lr, .int .i64 x.e] 125 (0, 0))] :: x.ch.s :: x.wait.s :: x.y.s :: H) [3, 0, 1, 2, 4, 5, 6, 7] 8 rfl rfl Tryz.func16 rfl ⟨rfl, rfl, trivial⟩ (⟨⟨A4, C5, subl x.wait.l 0 (min m x.wait.l.length : Nat), s7, o8⟩, (⟨x.b, x.ch, x.sd, x.client, max x.wh now, x.buffer, ⟨A10, C11, subl x.wait.l (min m x.wait.l.length : Nat) x.wait.l.length, x.wait.s, o12⟩, x.closing, x.r, x.y, x.off, x.lr, x.e, x.br⟩ : Str), true, (by show subl x.wait.l 0 (min m x.wait.l.length) = x.wait.l.take m; rw [subl_to, take_min]), ⟨hk.off, hk.e⟩, by simp only [Str.p, StrV.take, subl_from, drop_min]; grind, by simp only [Str.p, StrV.take, subl_from, ← drop_min x.wait.l m]; grind, ⟨rfl, rfl⟩, rfl, rfl⟩)
          · intro hc4
            have hc4 : ¬ ((x.closing = true) ∧ (((subl x.wait.l (min m x.wait.l.length : Nat) x.wait.l.length).length : Int) = 0)) := of_decide_eq_false hc4
            refine At.skip ?_
            refine At.seq ?_
            refine At.region ?_
            refine AtL.move (.inl rfl) rfl rfl ?_
            refine AtL.assign (.inl rfl) rfl rfl ?_
            refine AtL.assign (.inl rfl) rfl rfl ?_
            refine AtL.done ?_
            refine At.retU rfl ?_
            refine Un.pick (H' := [(c, .cells #[.int .i64 most, .int .i64 idle, .int .i64 buffer, .int .i64 last, .map (some mb)] 64 (0, 0))] :: [(mb, mapG kyI Lk.v kvs mn)] :: [(x.b, .cells #[x.ch.v, .bool x.sd, .int .i64 x.client, .int .i64 (max x.wh now), .int .i64 x.buffer, .slice A10 (subl x.wait.l (min m x.wait.l.length : Nat) x.wait.l.length).length C11, .bool x.closing, .bool false, .pointer (some ⟨x.r, 0, none⟩)] 108 (0, 0))] :: s7 :: [(x.r, .cells #[.int .i64 65535, .bool x.br, .slice x.y.A x.y.l.length x.y.C, .int .i64 (x.off : Int), .int .i8 x.lr, .int .i64 x.e] 125 (0, 0))] :: x.ch.s :: x.wait.s :: x.y.s :: H) [1, 2, 3, 0, 4, 5, 6, 7] 8 rfl rfl ?_
            refine Un.defer tf_body35 rfl rfl (left_strD (cl := false) (kvs := kvs) i hat) ?_
            rintro _ _ ⟨rfl, rfl⟩
            have hkl : (min m x.wait.l.length) = (min m x.wait.l.length) := rfl
            exact Un.leftP (vs := [.slice A4 (subl x.wait.l 0 (min m x.wait.l.length : Nat)).length C5, .int .i64 0]) (H2 := s7 :: [(c, .cells #[.int .i64 most, .int .i64 idle, .int .i64 buffer, .int .i64 last, .map (some mb)] 64 (0, 0))] :: [(mb, mapG kyI Lk.v (if false = true then delG i kvs else kvs) mn)] :: [(x.b, .cells #[x.ch.v, .bool x.sd, .int .i64 x.client, .int .i64 (max x.wh now), .int .i64 x.buffer, .slice A10 (subl x.wait.l (min m x.wait.l.length : Nat) x.wait.l.length).length C11, .bool x.closing, .bool false, .pointer (some ⟨x.r, 0, none⟩)] 108 (0, 0))] :: [(x.r, .cells #[.int .i64 65535, .bool x.br, .slice x.y.A x.y.l.length x.y.C, .int .i64 (x.off : Int), .int .i8 x.lr, .int .i64 x.e] 125 (0, 0))] :: x.ch.s :: x.wait.s :: x.y.s :: H) [3, 0, 1, 2, 4, 5, 6, 7] 8 rfl rfl Tryz.func16 rfl ⟨rfl, rfl, trivial⟩ (⟨⟨A4, C5, subl x.wait.l 0 (min m x.wait.l.length : Nat), s7, o8⟩, (⟨x.b, x.ch, x.sd, x.client, max x.wh now, x.buffer, ⟨A10, C11, subl x.wait.l (min m x.wait.l.length : Nat) x.wait.l.length, x.wait.s, o12⟩, x.closing, x.r, x.y, x.off, x.lr, x.e, x.br⟩ : Str), false, (by show subl x.wait.l 0 (min m x.wait.l.length) = x.wait.l.take m; rw [subl_to, take_min]), ⟨hk.off, hk.e⟩, by simp only [Str.p, StrV.take, subl_from, drop_min]; grind, by simp only [Str.p, StrV.take, subl_from, ← drop_min x.wait.l m]; grind, ⟨rfl, rfl⟩, rfl, rfl⟩)
      · intro hc3
        have hc3 : ¬ (0 < ((min m x.wait.l.length : Nat) : Int)) := of_decide_eq_false hc3
        refine At.skip ?_
        refine At.seq ?_
        refine At.seq ?_
        refine At.region ?_
        refine AtL.move (.inl rfl) rfl rfl ?_
        refine AtL.nilCheck (.inl rfl) rfl rfl ?_
        refine AtL.fieldAddrB tf_fo80_6 (.inl rfl) rfl rfl rfl ?_
        refine AtL.load tf_flat4 (.inl rfl) rfl rfl (Cell.own 3 0 rfl rfl rfl) ?_
        refine AtL.move (.inl rfl) rfl rfl ?_
        refine AtL.join 7 (E' := [(82, .bool (decide ((x.closing = true) ∧ (((subl x.wait.l (min m x.wait.l.length : Nat) x.wait.l.length).length : Int) = 0)))), (12, .pointer (some ⟨x.b, 0, none⟩)), (14, .slice A4 (subl x.wait.l 0 (min m x.wait.l.length : Nat)).length C5)]) (H' := s7 :: [(c, .cells #[.int .i64 most, .int .i64 idle, .int .i64 buffer, .int .i64 last, .map (some mb)] 64 (0, 0))] :: [(mb, mapG kyI Lk.v kvs mn)] :: [(x.b, .cells #[x.ch.v, .bool x.sd, .int .i64 x.client, .int .i64 x.wh, .int .i64 x.buffer, .slice A10 (subl x.wait.l (min m x.wait.l.length : Nat) x.wait.l.length).length C11, .bool x.closing, .bool false, .pointer (some ⟨x.r, 0, none⟩)] 108 (0, 0))] :: [(x.r, .cells #[.int .i64 65535, .bool x.br, .slice x.y.A x.y.l.length x.y.C, .int .i64 (x.off : Int), .int .i8 x.lr, .int .i64 x.e] 125 (0, 0))] :: x.ch.s :: x.wait.s :: x.y.s :: H) (fun J => ?_) ?_
        · refine AtL.split (t := 75) rfl ?_ ?_
          · intro hs75
            have hs75 : x.closing = true := hs75
            refine AtL.move (.inr ⟨_, _, _, rfl, rfl, rfl, rfl⟩) rfl rfl ?_
            refine AtL.nilCheck (.inr ⟨_, _, _, rfl, rfl, rfl, rfl⟩) rfl rfl ?_
            refine AtL.fieldAddrB tf_fo80_5 (.inr ⟨_, _, _, rfl, rfl, rfl, rfl⟩) rfl rfl rfl ?_
            refine AtL.load tf_flat34 (.inr ⟨_, _, _, rfl, rfl, rfl, rfl⟩) rfl rfl (Cell.own 3 0 rfl rfl rfl) ?_
            refine AtL.lenL Tryz.underlying34 (.inr ⟨_, _, _, rfl, rfl, rfl, rfl⟩) rfl rfl ?_
            refine AtL.eqi (.inr ⟨_, _, _, rfl, rfl, rfl, rfl⟩) rfl rfl rfl ?_
            refine AtL.pickT (.inl rfl) rfl rfl rfl ?_
            exact J _ (by exact ⟨(boolIs (by clear J; first | (simp [hs75]; done) | (simp_all; done) | grind)), rfl, rfl, trivial⟩)
          · intro hs75
            have hs75 : x.closing = false := hs75
            refine AtL.skipped rfl rfl rfl rfl rfl rfl ?_
            refine AtL.skipped rfl rfl rfl rfl rfl rfl ?_
            refine AtL.skipped rfl rfl rfl rfl rfl rfl ?_
            refine AtL.skipped rfl rfl rfl rfl rfl rfl ?_
            refine AtL.skipped rfl rfl rfl rfl rfl rfl ?_
            refine AtL.skipped rfl rfl rfl rfl rfl rfl ?_
            refine AtL.pickF (.inl rfl) rfl rfl rfl ?_
            exact J _ (by exact ⟨(boolIs (by clear J; first | (simp [hs75]; done) | (simp_all; done) | grind)), rfl, rfl, trivial⟩)
        · skip
          refine AtL.done ?_
          refine At.cond rfl ?_ ?_
          · intro hc4
            have hc4 : (x.closing = true) ∧ (((subl x.wait.l (min m x.wait.l.length : Nat) x.wait.l.length).length : Int) = 0) := of_decide_eq_true hc4
            refine At.region ?_
            refine AtL.move (.inl rfl) rfl rfl ?_
            refine AtL.nilCheck (.inl rfl) rfl rfl ?_
            refine AtL.fieldAddrB tf_fo80_7 (.inl rfl) rfl rfl rfl ?_
            refine AtL.store (H' := s7 :: [(c, .cells #[.int .i64 most, .int .i64 idle, .int .i64 buffer, .int .i64 last, .map (some mb)] 64 (0, 0))] :: [(mb, mapG kyI Lk.v kvs mn)] :: [(x.b, .cells #[x.ch.v, .bool x.sd, .int .i64 x.client, .int .i64 x.wh, .int .i64 x.buffer, .slice A10 (subl x.wait.l (min m x.wait.l.length : Nat) x.wait.l.length).length C11, .bool x.closing, .bool true, .pointer (some ⟨x.r, 0, none⟩)] 108 (0, 0))] :: [(x.r, .cells #[.int .i64 65535, .bool x.br, .slice x.y.A x.y.l.length x.y.C, .int .i64 (x.off : Int), .int .i8 x.lr, .int .i64 x.e] 125 (0, 0))] :: x.ch.s :: x.wait.s :: x.y.s :: H) 3 0 tf_sz4 (.inl rfl) rfl rfl rfl rfl rfl rfl rfl rfl rfl ?_
            refine AtL.done ?_
            refine At.seq ?_
            refine At.region ?_
            refine AtL.move (.inl rfl) rfl rfl ?_
            refine AtL.assign (.inl rfl) rfl rfl ?_
            refine AtL.assign (.inl rfl) rfl rfl ?_
            refine AtL.done ?_
            refine At.retU rfl ?_
            refine Un.pick (H' := [(c, .cells #[.int .i64 most, .int .i64 idle, .int .i64 buffer, .int .i64 last, .map (some mb)] 64 (0, 0))] :: [(mb, mapG kyI Lk.v kvs mn)] :: [(x.b, .cells #[x.ch.v, .bool x.sd, .int .i64 x.client, .int .i64 x.wh, .int .i64 x.buffer, .slice A10 (subl x.wait.l (min m x.wait.l.length : Nat) x.wait.l.length).length C11, .bool x.closing, .bool true, .pointer (some ⟨x.r, 0, none⟩)] 108 (0, 0))] :: s7 :: [(x.r, .cells #[.int .i64 65535, .bool x.br, .slice x.y.A x.y.l.length x.y.C, .int .i64 (x.off : Int), .int .i8 x.lr, .int .i64 x.e] 125 (0, 0))] :: x.ch.s :: x.wait.s :: x.y.s :: H) [1, 2, 3, 0, 4, 5, 6, 7] 8 rfl rfl ?_
            refine Un.defer tf_body35 rfl rfl (left_strD (cl := true) (kvs := kvs) i hat) ?_
            rintro _ _ ⟨rfl, rfl⟩
            have hkl : (min m x.wait.l.length) = (min m x.wait.l.length) := rfl
            exact Un.leftP (vs := [.slice A4 (subl x.wait.l 0 (min m x.wait.l.length : Nat)).length C5, .int .i64 0]) (H2 := s7 :: [(c, .cells #[.int .i64 most, .int .i64 idle, .int .i64 buffer, .int .i64 last, .map (some mb)] 64 (0, 0))] :: [(mb, mapG kyI Lk.v (if true = true then delG i kvs else kvs) mn)] :: [(x.b, .cells #[x.ch.v, .bool x.sd, .int .i64 x.client, .int .i64 x.wh, .int .i64 x.buffer, .slice A10 (subl x.wait.l (min m x.wait.l.length : Nat) x.wait.l.length).length C11, .bool x.closing, .bool true, .pointer (some ⟨x.r, 0, none⟩)] 108 (0, 0))] :: [(x.r, .cells #[.int .i64 65535, .bool x.br, .slice x.y.A x.y.l.length x.y.C, .int .i64 (x.off : Int), .int .i8 x.lr, .int .i64 x.e] 125 (0, 0))] :: x.ch.s :: x.wait.s :: x.y.s :: H) [3, 0, 1, 2, 4, 5, 6, 7] 8 rfl rfl Tryz.func16 rfl ⟨rfl, rfl, trivial⟩ (⟨⟨A4, C5, subl x.wait.l 0 (min m x.wait.l.length : Nat), s7, o8⟩, (⟨x.b, x.ch, x.sd, x.client, x.wh, x.buffer, ⟨A10, C11, subl x.wait.l (min m x.wait.l.length : Nat) x.wait.l.length, x.wait.s, o12⟩, x.closing, x.r, x.y, x.off, x.lr, x.e, x.br⟩ : Str), true, (by show subl x.wait.l 0 (min m x.wait.l.length) = x.wait.l.take m; rw [subl_to, take_min]), ⟨hk.off, hk.e⟩, by simp only [Str.p, StrV.take, subl_from, drop_min]; grind, by simp only [Str.p, StrV.take, subl_from, ← drop_min x.wait.l m]; grind, ⟨rfl, rfl⟩, rfl, rfl⟩)
          · intro hc4
            have hc4 : ¬ ((x.closing = true) ∧ (((subl x.wait.l (min m x.wait.l.length : Nat) x.wait.l.length).length : Int) = 0)) := of_decide_eq_false hc4
            refine At.skip ?_
            refine At.seq ?_
            refine At.region ?_
            refine AtL.move (.inl rfl) rfl rfl ?_
            refine AtL.assign (.inl rfl) rfl rfl ?_
            refine AtL.assign (.inl rfl) rfl rfl ?_
            refine AtL.done ?_
            refine At.retU rfl ?_
            refine Un.pick (H' := [(c, .cells #[.int .i64 most, .int .i64 idle, .int .i64 buffer, .int .i64 last, .map (some mb)] 64 (0, 0))] :: [(mb, mapG kyI Lk.v kvs mn)] :: [(x.b, .cells #[x.ch.v, .bool x.sd, .int .i64 x.client, .int .i64 x.wh, .int .i64 x.buffer, .slice A10 (subl x.wait.l (min m x.wait.l.length : Nat) x.wait.l.length).length C11, .bool x.closing, .bool false, .pointer (some ⟨x.r, 0, none⟩)] 108 (0, 0))] :: s7 :: [(x.r, .cells #[.int .i64 65535, .bool x.br, .slice x.y.A x.y.l.length x.y.C, .int .i64 (x.off : Int), .int .i8 x.lr, .int .i64 x.e] 125 (0, 0))] :: x.ch.s :: x.wait.s :: x.y.s :: H) [1, 2, 3, 0, 4, 5, 6, 7] 8 rfl rfl ?_
            refine Un.defer tf_body35 rfl rfl (left_strD (cl := false) (kvs := kvs) i hat) ?_
            rintro _ _ ⟨rfl, rfl⟩
            have hkl : (min m x.wait.l.length) = (min m x.wait.l.length) := rfl
            exact Un.leftP (vs := [.slice A4 (subl x.wait.l 0 (min m x.wait.l.length : Nat)).length C5, .int .i64 0]) (H2 := s7 :: [(c, .cells #[.int .i64 most, .int .i64 idle, .int .i64 buffer, .int .i64 last, .map (some mb)] 64 (0, 0))] :: [(mb, mapG kyI Lk.v (if false = true then delG i kvs else kvs) mn)] :: [(x.b, .cells #[x.ch.v, .bool x.sd, .int .i64 x.client, .int .i64 x.wh, .int .i64 x.buffer, .slice A10 (subl x.wait.l (min m x.wait.l.length : Nat) x.wait.l.length).length C11, .bool x.closing, .bool false, .pointer (some ⟨x.r, 0, none⟩)] 108 (0, 0))] :: [(x.r, .cells #[.int .i64 65535, .bool x.br, .slice x.y.A x.y.l.length x.y.C, .int .i64 (x.off : Int), .int .i8 x.lr, .int .i64 x.e] 125 (0, 0))] :: x.ch.s :: x.wait.s :: x.y.s :: H) [3, 0, 1, 2, 4, 5, 6, 7] 8 rfl rfl Tryz.func16 rfl ⟨rfl, rfl, trivial⟩ (⟨⟨A4, C5, subl x.wait.l 0 (min m x.wait.l.length : Nat), s7, o8⟩, (⟨x.b, x.ch, x.sd, x.client, x.wh, x.buffer, ⟨A10, C11, subl x.wait.l (min m x.wait.l.length : Nat) x.wait.l.length, x.wait.s, o12⟩, x.closing, x.r, x.y, x.off, x.lr, x.e, x.br⟩ : Str), false, (by show subl x.wait.l 0 (min m x.wait.l.length) = x.wait.l.take m; rw [subl_to, take_min]), ⟨hk.off, hk.e⟩, by simp only [Str.p, StrV.take, subl_from, drop_min]; grind, by simp only [Str.p, StrV.take, subl_from, ← drop_min x.wait.l m]; grind, ⟨rfl, rfl⟩, rfl, rfl⟩)
set_option maxHeartbeats 1000000 in
theorem answer_str {w0 : World} {base : Nat} {H : List Seg} {c mb : Nat} {most idle buffer last : Int} {kvs : List (Int × Lk × Nat)} {mn : Nat} {x : Str} {i : Int} (hm : ¬ most = 0) (hat : atG i kvs = some (.str x)) (hk : x.ok) {A : Option Addr} {C : Nat} {l : List UInt8} (slot : Int) (h : Rd tyB w0 base H A C l) (hl : l.length ≤ 1000000) (hw : x.wait.l.length ≤ 1073741824) :
    SCalls Tryz.prog 15 [.pointer (some ⟨c, 0, none⟩), .int .i64 i, .int .i64 slot, .slice A l.length C] w0 base ([(c, .cells #[.int .i64 most, .int .i64 idle, .int .i64 buffer, .int .i64 last, .map (some mb)] 64 (0, 0))] :: [(mb, mapG kyI Lk.v kvs mn)] :: [(x.b, .cells #[x.ch.v, .bool x.sd, .int .i64 x.client, .int .i64 x.wh, .int .i64 x.buffer, .slice x.wait.A x.wait.l.length x.wait.C, .bool x.closing, .bool false, .pointer (some ⟨x.r, 0, none⟩)] 108 (0, 0))] :: [(x.r, .cells #[.int .i64 65535, .bool x.br, .slice x.y.A x.y.l.length x.y.C, .int .i64 (x.off : Int), .int .i8 x.lr, .int .i64 x.e] 125 (0, 0))] :: x.ch.s :: x.wait.s :: x.y.s :: H) (fun v H' => ∃ (x' : Str) (cl : Bool), x'.ok ∧ x'.p = (x.p.answer slot l).2.2 ∧ cl = (x.p.answer slot l).2.1 ∧ (x'.b = x.b ∧ x'.y = x.y) ∧ v = int (x.p.answer slot l).1 ∧ H' = [(c, .cells #[.int .i64 most, .int .i64 idle, .int .i64 buffer, .int .i64 last, .map (some mb)] 64 (0, 0))] :: [(mb, mapG kyI Lk.v (if cl = true then delG i kvs else kvs) mn)] :: [(x'.b, .cells #[x'.ch.v, .bool x'.sd, .int .i64 x'.client, .int .i64 x'.wh, .int .i64 x'.buffer, .slice x'.wait.A x'.wait.l.length x'.wait.C, .bool x'.closing, .bool cl, .pointer (some ⟨x'.r, 0, none⟩)] 108 (0, 0))] :: [(x'.r, .cells #[.int .i64 65535, .bool x'.br, .slice x'.y.A x'.y.l.length x'.y.C, .int .i64 (x'.off : Int), .int .i8 x'.lr, .int .i64 x'.e] 125 (0, 0))] :: x'.ch.s :: x'.wait.s :: x'.y.s :: H) := by
  have hcw := Own.cap_le x.wait.own
  have hle0 := h.le
  have hcap0 := h.cap
  refine SCalls.of_walk (n := 89) Tryz.func15 rfl rfl rfl fun cs => ?_
  refine At.seq ?_
  refine At.region ?_
  refine AtL.assign (.inl rfl) rfl rfl ?_
  refine AtL.done ?_
  refine At.seq ?_
  refine At.region ?_
  refine AtL.move (.inl rfl) rfl rfl ?_
  refine AtL.move (.inl rfl) rfl rfl ?_
  refine AtL.call tf_body34 (.inl rfl) rfl rfl (cat_some (lk := Lk.str x) i hm hat) ?_
  rintro _ _ ⟨rfl, rfl⟩
  refine AtL.move (.inl rfl) rfl rfl ?_
  refine AtL.extract (.inl rfl) rfl rfl rfl ?_
  refine AtL.extract (.inl rfl) rfl rfl rfl ?_
  refine AtL.assign (.inl rfl) rfl rfl ?_
  refine AtL.assign (.inl rfl) rfl rfl ?_
  refine AtL.done ?_
  refine At.seq ?_
  refine At.seq ?_
  refine At.region ?_
  refine AtL.move (.inl rfl) rfl rfl ?_
  refine AtL.nei (.inl rfl) rfl rfl rfl ?_
  refine AtL.done ?_
  refine At.condF rfl ?_
  refine At.skip ?_
  refine At.seq ?_
  refine At.region ?_
  refine AtL.move (.inl rfl) rfl rfl ?_
  refine AtL.move (.inl rfl) rfl rfl ?_
  refine AtL.defer rfl (.inl rfl) rfl rfl rfl ?_
  refine AtL.done ?_
  refine At.seq ?_
  refine At.region ?_
  refine AtL.move (.inl rfl) rfl rfl ?_
  refine AtL.move (.inl rfl) rfl rfl ?_
  refine AtL.move (.inl rfl) rfl rfl ?_
  refine AtL.callI tf_body232 (.inl rfl) rfl rfl rfl (fun w => by kernel_rfl) (sgoes_ok (b := x.b) (l := l) slot (Rd.skip 7 h) (by omega)) ?_
  rintro _ _ ⟨o1, f2, h3, h4, rfl, rfl⟩
  refine AtL.move (.inl rfl) rfl rfl ?_
  refine AtL.extract (.inl rfl) rfl rfl rfl ?_
  refine AtL.extract (.inl rfl) rfl rfl rfl ?_
  refine AtL.assign (.inl rfl) rfl rfl ?_
  refine AtL.assign (.inl rfl) rfl rfl ?_
  refine AtL.done ?_
  refine At.seq ?_
  refine At.seq ?_
  refine At.region ?_
  refine AtL.move (.inl rfl) rfl rfl ?_
  refine AtL.nei (.inl rfl) rfl rfl rfl ?_
  refine AtL.done ?_
  refine At.cond rfl ?_ ?_
  · intro hc2
    have hc2 : ¬ ((sgoE slot l : Int) = 0) := of_decide_eq_false (bnot_true hc2)
    refine At.seq ?_
    refine At.region ?_
    refine AtL.move (.inl rfl) rfl rfl ?_
    refine AtL.assign (.inl rfl) rfl rfl ?_
    refine AtL.done ?_
    refine At.retU rfl ?_
    refine Un.pick (H' := [(c, .cells #[.int .i64 most, .int .i64 idle, .int .i64 buffer, .int .i64 last, .map (some mb)] 64 (0, 0))] :: [(mb, mapG kyI Lk.v kvs mn)] :: [(x.b, .cells #[x.ch.v, .bool x.sd, .int .i64 x.client, .int .i64 x.wh, .int .i64 x.buffer, .slice x.wait.A x.wait.l.length x.wait.C, .bool x.closing, .bool false, .pointer (some ⟨x.r, 0, none⟩)] 108 (0, 0))] :: o1.s :: f2.s :: [(x.r, .cells #[.int .i64 65535, .bool x.br, .slice x.y.A x.y.l.length x.y.C, .int .i64 (x.off : Int), .int .i8 x.lr, .int .i64 x.e] 125 (0, 0))] :: x.ch.s :: x.wait.s :: x.y.s :: H) [2, 3, 4, 0, 1, 5, 6, 7, 8] 9 rfl rfl ?_
    refine Un.defer tf_body35 rfl rfl (left_strD (cl := false) (kvs := kvs) i hat) ?_
    rintro _ _ ⟨rfl, rfl⟩
    exact Un.leftP (vs := [.int .i64 (sgoE slot l)]) (H2 := [(c, .cells #[.int .i64 most, .int .i64 idle, .int .i64 buffer, .int .i64 last, .map (some mb)] 64 (0, 0))] :: [(mb, mapG kyI Lk.v (if false = true then delG i kvs else kvs) mn)] :: [(x.b, .cells #[x.ch.v, .bool x.sd, .int .i64 x.client, .int .i64 x.wh, .int .i64 x.buffer, .slice x.wait.A x.wait.l.length x.wait.C, .bool x.closing, .bool false, .pointer (some ⟨x.r, 0, none⟩)] 108 (0, 0))] :: [(x.r, .cells #[.int .i64 65535, .bool x.br, .slice x.y.A x.y.l.length x.y.C, .int .i64 (x.off : Int), .int .i8 x.lr, .int .i64 x.e] 125 (0, 0))] :: x.ch.s :: x.wait.s :: x.y.s :: H) [0, 1, 2, 5, 6, 7, 8] 9 rfl rfl Tryz.func15 rfl ⟨rfl, trivial⟩ (⟨x, false, hk, by rw [StrV.answer, if_neg hc2], by rw [StrV.answer, if_neg hc2], ⟨rfl, rfl⟩, by rw [StrV.answer, if_neg hc2]; rfl, rfl⟩)
  · intro hc2
    have hc2 : (sgoE slot l : Int) = 0 := of_decide_eq_true (bnot_false hc2)
    have hgo : sgoE slot l = 0 := by simpa using hc2
    obtain ⟨ho9, hf9⟩ := h3 hgo
    have hol : o1.l.length = 1 := by rw [ho9]; rfl
    have hog : o1.l.getD 0 (⟨none, 0, []⟩ : Bs) = f2.v := by rw [ho9]; rfl
    have hfn := frmL_len l
    have hgl : (o1.l.getD 0 (⟨none, 0, []⟩ : Bs)).l = frmL l := by rw [hog]; exact hf9
    have hgn : (o1.l.getD 0 (⟨none, 0, []⟩ : Bs)).l.length ≤ l.length + 2 := by rw [hgl]; exact hfn
    have hoe : ∀ q ∈ o1.l, Rd tyB w0 base (f2.s :: H) q.A q.C q.l := by rw [ho9]; intro q hq; rw [List.mem_singleton.1 hq]; exact f2.own.rd (i := 0) rfl
    refine At.skip ?_
    refine At.seq ?_
    refine At.region ?_
    refine AtL.move (.inl rfl) rfl rfl ?_
    refine AtL.callI tf_body213 (.inl rfl) rfl rfl rfl (fun w => by kernel_rfl) (of_ok (b := x.b)) ?_
    rintro _ _ ⟨rfl, rfl⟩
    refine AtL.assign (.inl rfl) rfl rfl ?_
    refine AtL.done ?_
    refine At.seq ?_
    refine At.seq ?_
    refine At.region ?_
    refine AtL.move (.inl rfl) rfl rfl ?_
    refine AtL.lenL Tryz.underlying22 (.inl rfl) rfl rfl ?_
    refine AtL.move (.inl rfl) rfl rfl ?_
    refine AtL.done ?_
    refine At.block ?_
    refine At.unroll ?_
    refine At.seq ?_
    refine At.region ?_
    refine AtL.lss (.inl rfl) rfl rfl rfl ?_
    refine AtL.done ?_
    refine At.seq ?_
    refine At.condIs true rfl (decide_eq_true (by omega)) ?_
    refine At.skip ?_
    refine At.seq ?_
    refine At.block ?_
    refine At.seq ?_
    refine At.region ?_
    refine AtL.indexL 0 (o1.own.rd (i := 0) rfl) Tryz.underlying22 tf_sz34 (.inl rfl) rfl rfl rfl rfl (by omega) ?_
    refine AtL.load (v := .slice ((o1.l.getD 0 (⟨none, 0, []⟩ : Bs)).A) ((o1.l.getD 0 (⟨none, 0, []⟩ : Bs)).l).length ((o1.l.getD 0 (⟨none, 0, []⟩ : Bs)).C)) tf_flat34 (.inl rfl) rfl rfl (Rd.cell0 (o1.own.rd (i := 0) rfl) (getD_some (⟨none, 0, []⟩ : Bs) (by omega)) rfl) ?_
    refine AtL.assign (.inl rfl) rfl rfl ?_
    refine AtL.done ?_
    refine At.seq ?_
    refine At.region ?_
    refine AtL.move (.inl rfl) rfl rfl ?_
    refine AtL.nilCheck (.inl rfl) rfl rfl ?_
    refine AtL.fieldAddrB tf_fo80_7 (.inl rfl) rfl rfl rfl ?_
    refine AtL.load tf_flat4 (.inl rfl) rfl rfl (Cell.own 4 0 rfl rfl rfl) ?_
    refine AtL.not (.inl rfl) rfl rfl ?_
    refine AtL.done ?_
    refine At.condT rfl ?_
    refine At.region ?_
    refine AtL.move (.inl rfl) rfl rfl ?_
    refine AtL.move (.inl rfl) rfl rfl ?_
    refine AtL.nilCheck (.inl rfl) rfl rfl ?_
    refine AtL.fieldAddrB tf_fo80_0 (.inl rfl) rfl rfl rfl ?_
    refine AtL.load tf_flat32 (.inl rfl) rfl rfl (Cell.own 4 0 rfl rfl rfl) ?_
    refine AtL.move (.inl rfl) rfl rfl ?_
    refine AtL.pick (H' := x.ch.s :: o1.s :: f2.s :: [(c, .cells #[.int .i64 most, .int .i64 idle, .int .i64 buffer, .int .i64 last, .map (some mb)] 64 (0, 0))] :: [(mb, mapG kyI Lk.v kvs mn)] :: [(x.b, .cells #[x.ch.v, .bool x.sd, .int .i64 x.client, .int .i64 x.wh, .int .i64 x.buffer, .slice x.wait.A x.wait.l.length x.wait.C, .bool x.closing, .bool false, .pointer (some ⟨x.r, 0, none⟩)] 108 (0, 0))] :: [(x.r, .cells #[.int .i64 65535, .bool x.br, .slice x.y.A x.y.l.length x.y.C, .int .i64 (x.off : Int), .int .i8 x.lr, .int .i64 x.e] 125 (0, 0))] :: x.wait.s :: x.y.s :: H) [6, 0, 1, 2, 3, 4, 5, 7, 8] 9 rfl rfl ?_
    refine AtL.callI (chn_b_Send x.ch) (.inl rfl) rfl rfl rfl (chn_m_Send x.ch) (chn_Send x.ch (l := (o1.l.getD 0 (⟨none, 0, []⟩ : Bs)).l) (Rd.pick [1] 8 rfl rfl (hoe _ (getD_mem (l := o1.l) (i := 0) (d := (⟨none, 0, []⟩ : Bs)) (by omega)))) (by omega)) ?_
    rintro _ _ ⟨t5, ch6, ht7, hp8, hc9, rfl, rfl⟩
    have t5n : t5.l.length ≤ 4 + 4 * ((o1.l.getD 0 (⟨none, 0, []⟩ : Bs)).l).length := by rw [ht7]; exact chsend_len _ _
    try rw [chn_send_v hp8 hc9]
    refine AtL.pick (H' := x.wait.s :: [(x.b, .cells #[ch6.v, .bool x.sd, .int .i64 x.client, .int .i64 x.wh, .int .i64 x.buffer, .slice x.wait.A x.wait.l.length x.wait.C, .bool x.closing, .bool false, .pointer (some ⟨x.r, 0, none⟩)] 108 (0, 0))] :: t5.s :: ch6.s :: o1.s :: f2.s :: [(c, .cells #[.int .i64 most, .int .i64 idle, .int .i64 buffer, .int .i64 last, .map (some mb)] 64 (0, 0))] :: [(mb, mapG kyI Lk.v kvs mn)] :: [(x.r, .cells #[.int .i64 65535, .bool x.br, .slice x.y.A x.y.l.length x.y.C, .int .i64 (x.off : Int), .int .i8 x.lr, .int .i64 x.e] 125 (0, 0))] :: x.y.s :: H) [8, 6, 0, 1, 2, 3, 4, 5, 7, 9] 10 rfl rfl ?_
    refine AtL.call tf_body36 (.inl rfl) rfl rfl (put_str (y := x.wait) (l := t5.l) (t5.own.rd (i := 0) rfl) (by omega)) ?_
    rintro _ _ ⟨z10, cl11, hz12, hcl13, rfl, rfl⟩
    have z10c9 := Own.cap_le z10.own
    refine AtL.done ?_
    refine At.inBlock ?_
    refine At.region ?_
    refine AtL.add (z := 1) (.inl rfl) rfl rfl rfl (by decide) ?_
    refine AtL.move (.inl rfl) rfl rfl ?_
    refine AtL.done ?_
    refine At.again ?_
    refine At.seq ?_
    refine At.region ?_
    refine AtL.lss (.inl rfl) rfl rfl rfl ?_
    refine AtL.done ?_
    refine At.seq ?_
    refine At.condIs false rfl (decide_eq_false (by omega)) ?_
    refine At.exit rfl ?_
    refine At.seq ?_
    refine At.seq ?_
    refine At.region ?_
    refine AtL.move (.inl rfl) rfl rfl ?_
    refine AtL.nilCheck (.inl rfl) rfl rfl ?_
    refine AtL.fieldAddrB tf_fo80_7 (.inl rfl) rfl rfl rfl ?_
    refine AtL.load tf_flat4 (.inl rfl) rfl rfl (Cell.own 1 0 rfl rfl rfl) ?_
    refine AtL.not (.inl rfl) rfl rfl ?_
    refine AtL.move (.inl rfl) rfl rfl ?_
    refine AtL.join 3 (E' := [(66, .bool false), (9, .iface 106 (.pointer (some ⟨x.b, 0, none⟩))), (12, .pointer (some ⟨x.b, 0, none⟩))]) (H' := z10.s :: [(x.b, .cells #[ch6.v, .bool x.sd, .int .i64 x.client, .int .i64 x.wh, .int .i64 x.buffer, .slice z10.A z10.l.length z10.C, .bool x.closing, .bool cl11, .pointer (some ⟨x.r, 0, none⟩)] 108 (0, 0))] :: t5.s :: ch6.s :: o1.s :: f2.s :: [(c, .cells #[.int .i64 most, .int .i64 idle, .int .i64 buffer, .int .i64 last, .map (some mb)] 64 (0, 0))] :: [(mb, mapG kyI Lk.v kvs mn)] :: [(x.r, .cells #[.int .i64 65535, .bool x.br, .slice x.y.A x.y.l.length x.y.C, .int .i64 (x.off : Int), .int .i8 x.lr, .int .i64 x.e] 125 (0, 0))] :: x.y.s :: H) (fun J => ?_) ?_
    · refine AtL.split (t := 63) rfl ?_ ?_
      · intro hs63
        have hs63 : cl11 = false := bnot_true hs63
        refine AtL.move (.inr ⟨_, _, _, rfl, rfl, rfl, rfl⟩) rfl rfl ?_
        refine AtL.callI tf_body230 (.inr ⟨_, _, _, rfl, rfl, rfl, rfl⟩) rfl rfl rfl (fun w => by kernel_rfl) (sends_ok (b := x.b)) ?_
        rintro _ _ ⟨rfl, rfl⟩
        refine AtL.pickT (.inl rfl) rfl rfl rfl ?_
        exact J _ (by exact ⟨rfl, rfl, rfl, trivial⟩)
      · intro hs63
        have hs63 : cl11 = true := bnot_false hs63
        refine AtL.skipped rfl rfl rfl rfl rfl rfl ?_
        refine AtL.skipped rfl rfl rfl rfl rfl rfl ?_
        refine AtL.pickF (.inl rfl) rfl rfl rfl ?_
        exact J _ (by exact ⟨rfl, rfl, rfl, trivial⟩)
    · skip
      refine AtL.move (.inl rfl) rfl rfl ?_
      refine AtL.skipped rfl rfl rfl rfl rfl rfl ?_
      refine AtL.skipped rfl rfl rfl rfl rfl rfl ?_
      refine AtL.pickF (.inl rfl) rfl rfl rfl ?_
      refine AtL.done ?_
      refine At.condF rfl ?_
      refine At.skip ?_
      refine At.seq ?_
      refine At.seq ?_
      cases cl11 with
      | true =>
        rw [Bool.false_or] at hcl13
        have hgt : x.buffer < (z10.l.length : Int) := of_decide_eq_true hcl13.symm
        refine At.draw (es := []) (pv := [(0, .pointer (some ⟨x.b, 0, none⟩)), (1, .pointer (some ⟨x.b, 0, none⟩)), (2, .pointer (some ⟨x.b, 7, none⟩)), (3, .bool true), (4, .bool true), (5, .pointer (some ⟨x.b, 0, none⟩)), (6, .pointer (some ⟨x.b, 0, none⟩)), (7, .pointer (some ⟨x.b, 5, none⟩)), (8, .slice z10.A z10.l.length z10.C), (9, .int .i64 (z10.l.length : Int)), (10, .pointer (some ⟨x.b, 0, none⟩)), (11, .pointer (some ⟨x.b, 0, none⟩)), (12, .pointer (some ⟨x.b, 4, none⟩)), (13, .int .i64 x.buffer), (14, .bool true), (15, .bool true)]) tf_mixed (by kernel_rfl) (by kernel_rfl) (by kernel_rfl) ?_
        refine ⟨⟨.inr ⟨_, rfl, rfl, .inl ⟨rfl, Do.move rfl⟩⟩, .inr ⟨_, rfl, rfl, .inl ⟨rfl, Do.nilCheck rfl⟩⟩, .inr ⟨_, rfl, rfl, .inl ⟨rfl, Do.fieldAddrB tf_fo80_7 rfl rfl⟩⟩, .inr ⟨_, rfl, rfl, .inl ⟨rfl, Do.load tf_flat4 rfl (Cell.own 1 0 rfl rfl rfl)⟩⟩, .inr ⟨_, rfl, rfl, .inl ⟨rfl, Do.move rfl⟩⟩, .inr ⟨_, rfl, rfl, .inl ⟨⟨_, _, _, rfl, rfl, rfl, rfl⟩, Do.move rfl⟩⟩, .inr ⟨_, rfl, rfl, .inl ⟨⟨_, _, _, rfl, rfl, rfl, rfl⟩, Do.nilCheck rfl⟩⟩, .inr ⟨_, rfl, rfl, .inl ⟨⟨_, _, _, rfl, rfl, rfl, rfl⟩, Do.fieldAddrB tf_fo80_5 rfl rfl⟩⟩, .inr ⟨_, rfl, rfl, .inl ⟨⟨_, _, _, rfl, rfl, rfl, rfl⟩, Do.load tf_flat34 rfl (Cell.own 1 0 rfl rfl rfl)⟩⟩, .inr ⟨_, rfl, rfl, .inl ⟨⟨_, _, _, rfl, rfl, rfl, rfl⟩, Do.lenL Tryz.underlying34 rfl⟩⟩, .inr ⟨_, rfl, rfl, .inl ⟨⟨_, _, _, rfl, rfl, rfl, rfl⟩, Do.move rfl⟩⟩, .inr ⟨_, rfl, rfl, .inl ⟨⟨_, _, _, rfl, rfl, rfl, rfl⟩, Do.nilCheck rfl⟩⟩, .inr ⟨_, rfl, rfl, .inl ⟨⟨_, _, _, rfl, rfl, rfl, rfl⟩, Do.fieldAddrB tf_fo80_4 rfl rfl⟩⟩, .inr ⟨_, rfl, rfl, .inl ⟨⟨_, _, _, rfl, rfl, rfl, rfl⟩, Do.load tf_flat3 rfl (Cell.own 1 0 rfl rfl rfl)⟩⟩, .inr ⟨_, rfl, rfl, .inl ⟨⟨_, _, _, rfl, rfl, rfl, rfl⟩, Do.asBool (Do.gtr rfl rfl) (decide_eq_true hgt)⟩⟩, .inr ⟨_, rfl, rfl, .inl ⟨rfl, Do.pickT rfl rfl⟩⟩, trivial⟩, by kernel_rfl, ?_⟩
        refine At.mono (E' := [(88, .bool true)]) ⟨rfl, trivial⟩ ?_
        refine At.condT rfl ?_
        refine At.seq ?_
        refine At.region ?_
        refine AtL.assign (.inl rfl) rfl rfl ?_
        refine AtL.done ?_
        refine At.retU rfl ?_
        refine Un.pick (H' := [(c, .cells #[.int .i64 most, .int .i64 idle, .int .i64 buffer, .int .i64 last, .map (some mb)] 64 (0, 0))] :: [(mb, mapG kyI Lk.v kvs mn)] :: [(x.b, .cells #[ch6.v, .bool x.sd, .int .i64 x.client, .int .i64 x.wh, .int .i64 x.buffer, .slice z10.A z10.l.length z10.C, .bool x.closing, .bool true, .pointer (some ⟨x.r, 0, none⟩)] 108 (0, 0))] :: z10.s :: t5.s :: ch6.s :: o1.s :: f2.s :: [(x.r, .cells #[.int .i64 65535, .bool x.br, .slice x.y.A x.y.l.length x.y.C, .int .i64 (x.off : Int), .int .i8 x.lr, .int .i64 x.e] 125 (0, 0))] :: x.y.s :: H) [6, 7, 1, 0, 2, 3, 4, 5, 8, 9] 10 rfl rfl ?_
        refine Un.defer tf_body35 rfl rfl (left_strD (cl := true) (kvs := kvs) i hat) ?_
        rintro _ _ ⟨rfl, rfl⟩
        have hA : x.p.answer slot l = (if x.buffer < ((z10.l).length : Int) then 3 else 0, decide (x.buffer < ((z10.l).length : Int)), { x.p with ch := ch6.p, wait := z10.l }) := by rw [StrV.answer, if_pos hgo, hp8, hz12, ht7, hgl]; rfl
        exact Un.leftP (vs := [.int .i64 3]) (H2 := [(c, .cells #[.int .i64 most, .int .i64 idle, .int .i64 buffer, .int .i64 last, .map (some mb)] 64 (0, 0))] :: [(mb, mapG kyI Lk.v (if true = true then delG i kvs else kvs) mn)] :: [(x.b, .cells #[ch6.v, .bool x.sd, .int .i64 x.client, .int .i64 x.wh, .int .i64 x.buffer, .slice z10.A z10.l.length z10.C, .bool x.closing, .bool true, .pointer (some ⟨x.r, 0, none⟩)] 108 (0, 0))] :: [(x.r, .cells #[.int .i64 65535, .bool x.br, .slice x.y.A x.y.l.length x.y.C, .int .i64 (x.off : Int), .int .i8 x.lr, .int .i64 x.e] 125 (0, 0))] :: ch6.s :: z10.s :: x.y.s :: H) [0, 1, 2, 8, 5, 3, 9] 10 rfl rfl Tryz.func15 rfl ⟨rfl, trivial⟩ (⟨(⟨x.b, ch6, x.sd, x.client, x.wh, x.buffer, z10, x.closing, x.r, x.y, x.off, x.lr, x.e, x.br⟩ : Str), true, ⟨hk.off, hk.e⟩, by rw [hA]; rfl, by rw [hA]; exact hcl13, ⟨rfl, rfl⟩, by rw [hA]; show _ = int (if x.buffer < ((z10.l).length : Int) then 3 else 0); rw [if_pos hgt]; rfl, rfl⟩)
      | false =>
        rw [Bool.false_or] at hcl13
        have hgt : ¬ x.buffer < (z10.l.length : Int) := of_decide_eq_false hcl13.symm
        refine At.draw (es := []) (pv := [(0, .pointer (some ⟨x.b, 0, none⟩)), (1, .pointer (some ⟨x.b, 0, none⟩)), (2, .pointer (some ⟨x.b, 7, none⟩)), (3, .bool false), (4, .bool false), (5, undef), (6, undef), (7, undef), (8, undef), (9, undef), (10, undef), (11, undef), (12, undef), (13, undef), (14, undef), (15, .bool false)]) tf_mixed (by kernel_rfl) (by kernel_rfl) (by kernel_rfl) ?_
        refine ⟨⟨.inr ⟨_, rfl, rfl, .inl ⟨rfl, Do.move rfl⟩⟩, .inr ⟨_, rfl, rfl, .inl ⟨rfl, Do.nilCheck rfl⟩⟩, .inr ⟨_, rfl, rfl, .inl ⟨rfl, Do.fieldAddrB tf_fo80_7 rfl rfl⟩⟩, .inr ⟨_, rfl, rfl, .inl ⟨rfl, Do.load tf_flat4 rfl (Cell.own 1 0 rfl rfl rfl)⟩⟩, .inr ⟨_, rfl, rfl, .inl ⟨rfl, Do.move rfl⟩⟩, .inr ⟨_, rfl, rfl, .inr ⟨⟨_, _, _, rfl, rfl, rfl, rfl⟩, rfl⟩⟩, .inr ⟨_, rfl, rfl, .inr ⟨⟨_, _, _, rfl, rfl, rfl, rfl⟩, rfl⟩⟩, .inr ⟨_, rfl, rfl, .inr ⟨⟨_, _, _, rfl, rfl, rfl, rfl⟩, rfl⟩⟩, .inr ⟨_, rfl, rfl, .inr ⟨⟨_, _, _, rfl, rfl, rfl, rfl⟩, rfl⟩⟩, .inr ⟨_, rfl, rfl, .inr ⟨⟨_, _, _, rfl, rfl, rfl, rfl⟩, rfl⟩⟩, .inr ⟨_, rfl, rfl, .inr ⟨⟨_, _, _, rfl, rfl, rfl, rfl⟩, rfl⟩⟩, .inr ⟨_, rfl, rfl, .inr ⟨⟨_, _, _, rfl, rfl, rfl, rfl⟩, rfl⟩⟩, .inr ⟨_, rfl, rfl, .inr ⟨⟨_, _, _, rfl, rfl, rfl, rfl⟩, rfl⟩⟩, .inr ⟨_, rfl, rfl, .inr ⟨⟨_, _, _, rfl, rfl, rfl, rfl⟩, rfl⟩⟩, .inr ⟨_, rfl, rfl, .inr ⟨⟨_, _, _, rfl, rfl, rfl, rfl⟩, rfl⟩⟩, .inr ⟨_, rfl, rfl, .inl ⟨rfl, Do.pickF rfl rfl⟩⟩, trivial⟩, by kernel_rfl, ?_⟩
        refine At.mono (E' := [(88, .bool false)]) ⟨rfl, trivial⟩ ?_
        refine At.condF rfl ?_
        refine At.skip ?_
        refine At.seq ?_
        refine At.region ?_
        refine AtL.assign (.inl rfl) rfl rfl ?_
        refine AtL.done ?_
        refine At.retU rfl ?_
        refine Un.pick (H' := [(c, .cells #[.int .i64 most, .int .i64 idle, .int .i64 buffer, .int .i64 last, .map (some mb)] 64 (0, 0))] :: [(mb, mapG kyI Lk.v kvs mn)] :: [(x.b, .cells #[ch6.v, .bool x.sd, .int .i64 x.client, .int .i64 x.wh, .int .i64 x.buffer, .slice z10.A z10.l.length z10.C, .bool x.closing, .bool false, .pointer (some ⟨x.r, 0, none⟩)] 108 (0, 0))] :: z10.s :: t5.s :: ch6.s :: o1.s :: f2.s :: [(x.r, .cells #[.int .i64 65535, .bool x.br, .slice x.y.A x.y.l.length x.y.C, .int .i64 (x.off : Int), .int .i8 x.lr, .int .i64 x.e] 125 (0, 0))] :: x.y.s :: H) [6, 7, 1, 0, 2, 3, 4, 5, 8, 9] 10 rfl rfl ?_
        refine Un.defer tf_body35 rfl rfl (left_strD (cl := false) (kvs := kvs) i hat) ?_
        rintro _ _ ⟨rfl, rfl⟩
        have hA : x.p.answer slot l = (if x.buffer < ((z10.l).length : Int) then 3 else 0, decide (x.buffer < ((z10.l).length : Int)), { x.p with ch := ch6.p, wait := z10.l }) := by rw [StrV.answer, if_pos hgo, hp8, hz12, ht7, hgl]; rfl
        exact Un.leftP (vs := [.int .i64 0]) (H2 := [(c, .cells #[.int .i64 most, .int .i64 idle, .int .i64 buffer, .int .i64 last, .map (some mb)] 64 (0, 0))] :: [(mb, mapG kyI Lk.v (if false = true then delG i kvs else kvs) mn)] :: [(x.b, .cells #[ch6.v, .bool x.sd, .int .i64 x.client, .int .i64 x.wh, .int .i64 x.buffer, .slice z10.A z10.l.length z10.C, .bool x.closing, .bool false, .pointer (some ⟨x.r, 0, none⟩)] 108 (0, 0))] :: [(x.r, .cells #[.int .i64 65535, .bool x.br, .slice x.y.A x.y.l.length x.y.C, .int .i64 (x.off : Int), .int .i8 x.lr, .int .i64 x.e] 125 (0, 0))] :: ch6.s :: z10.s :: x.y.s :: H) [0, 1, 2, 8, 5, 3, 9] 10 rfl rfl Tryz.func15 rfl ⟨rfl, trivial⟩ (⟨(⟨x.b, ch6, x.sd, x.client, x.wh, x.buffer, z10, x.closing, x.r, x.y, x.off, x.lr, x.e, x.br⟩ : Str), false, ⟨hk.off, hk.e⟩, by rw [hA]; rfl, by rw [hA]; exact hcl13, ⟨rfl, rfl⟩, by rw [hA]; show _ = int (if x.buffer < ((z10.l).length : Int) then 3 else 0); rw [if_neg hgt]; rfl, rfl⟩)
end Go.Proofs.YtbfabhdfmoiabaaGreatDoor
namespace Go.Proofs.YtbfabhdfmoiabaaGreatDoor
set_option linter.unusedVariables false
set_option linter.unusedSimpArgs false
set_option maxRecDepth 100000
open Go
def cutCR : List UInt8 → Option (List UInt8 × List UInt8)
  | [] => none
  | c :: r => if c = 13 ∧ r.head? = some 10 then some ([], r.tail) else (cutCR r).map fun p => (c :: p.1, p.2)
def crlf (c : UInt8) : Bool := c = 13 || c = 10
theorem cutCR_len {b l r : List UInt8} (h : cutCR b = some (l, r)) : b = l ++ 13 :: 10 :: r := by
  induction b generalizing l with
  | nil => simp [cutCR] at h
  | cons c b ih =>
    unfold cutCR at h
    split at h
    · rename_i h1
      obtain ⟨rfl, h2⟩ := h1
      cases b with
      | nil => simp at h2
      | cons d b => simp at h2; subst h2; simp at h; obtain ⟨rfl, rfl⟩ := h; rfl
    · cases hc : cutCR b with
      | none => rw [hc] at h; simp at h
      | some p =>
        rw [hc] at h
        simp at h
        obtain ⟨rfl, rfl⟩ := h
        rw [ih (l := p.1) (by rw [hc])]
        rfl
def linesF (b : List UInt8) : Option (List (List UInt8)) :=
  match h : cutCR b with
  | none => none
  | some (l, r) => if l.any crlf then none else if l = [] then (if r = [] then some [] else none) else (linesF r).map (l :: ·)
termination_by b.length
decreasing_by (have := cutCR_len h; rw [this]; simp; omega)
def spF (c : UInt8) : List UInt8 → List (List UInt8)
  | [] => [[]]
  | d :: r => if d = c then [] :: spF c r else match spF c r with
    | [] => [[d]]
    | w :: ws => (d :: w) :: ws
def blankF (c : UInt8) : Bool := c = 9 || c = 32
def tl (p : UInt8 → Bool) (l : List UInt8) : List UInt8 := l.dropWhile p
def tr (p : UInt8 → Bool) (l : List UInt8) : List UInt8 := (l.reverse.dropWhile p).reverse
def trimF (l : List UInt8) : List UInt8 := tr blankF (tl blankF l)
def lowB (c : UInt8) : UInt8 := if 65 ≤ c ∧ c ≤ 90 then c + 32 else c
def lowerF (l : List UInt8) : List UInt8 := l.map lowB
def valCh (c : UInt8) : Bool := !(c ≠ 9 && c < 32) && c ≠ 127
def valueF (l : List UInt8) : Bool := l.all valCh && decide (trimF l = l)
def letterF (c : UInt8) : Bool :=
  decide ((((48 ≤ c.toNat ∧ c.toNat ≤ 57) ∨ (65 ≤ c.toNat ∧ c.toNat ≤ 90)) ∨ (97 ≤ c.toNat ∧ c.toNat ≤ 122)) ∨
    (c.toNat = 33 ∨ (35 ≤ c.toNat ∧ c.toNat ≤ 39) ∨ c.toNat = 42 ∨ c.toNat = 43 ∨ c.toNat = 45 ∨ c.toNat = 46 ∨ (94 ≤ c.toNat ∧ c.toNat ≤ 96) ∨ c.toNat = 124 ∨ c.toNat = 126))
def wordF (s : List UInt8) (most : Int) : Bool := decide (1 ≤ s.length ∧ (s.length : Int) ≤ most) && s.all letterF
def targetF (s : List UInt8) : Bool := decide (s.head? = some 47) && s.all fun c => decide (33 ≤ c.toNat ∧ c.toNat ≤ 126)
def allF (fs : List (List UInt8 × List UInt8)) (name : List UInt8) : List (List UInt8) := (fs.filter fun f => lowerF f.1 = lowerF name).map (·.2)
def fieldF (fs : List (List UInt8 × List UInt8)) (name : List UInt8) : List UInt8 × Nat := ((allF fs name).headD [], (allF fs name).length)
def HOST : List UInt8 := [104, 111, 115, 116]
def hostsF (fs : List (List UInt8 × List UInt8)) (minor : Int) : Bool := decide ((fieldF fs HOST).2 = 1 ∨ ((fieldF fs HOST).2 = 0 ∧ minor = 0))
abbrev Fld := List UInt8 × List UInt8
structure HeadV where
  m : List UInt8
  t : List UInt8
  minor : Int
  fs : List Fld
deriving DecidableEq
def HeadV.zero : HeadV := ⟨[], [], 0, []⟩
def cutC (c : UInt8) : List UInt8 → Option (List UInt8 × List UInt8)
  | [] => none
  | a :: r => if a = c then some ([], r) else (cutC c r).map fun p => (a :: p.1, p.2)
def verF (v : List UInt8) : Bool :=
  decide (v.length = 8) && decide (v.take 5 = [72, 84, 84, 80, 47]) && decide (48 ≤ v.getD 5 0 ∧ v.getD 5 0 ≤ 57) && decide (v.getD 6 0 = 46) && decide (48 ≤ v.getD 7 0 ∧ v.getD 7 0 ≤ 57)
def fieldsF : List (List UInt8) → Nat → Int ⊕ List Fld
  | [], _ => .inr []
  | x :: r, n => if n = 32 then .inl 431 else
    match cutC 58 x with
    | none => .inl 400
    | some (k, v) => if wordF k 64 && valueF (trimF v) then
        (match fieldsF r (n + 1) with | .inl s => .inl s | .inr fs => .inr ((k, trimF v) :: fs))
      else .inl 400
def headF (l0 : List UInt8) (ls : List (List UInt8)) : HeadV × Int :=
  match spF 32 l0 with
  | [m, t, v] =>
    if m = [] ∨ t = [] ∨ v = [] ∨ wordF m 16 = false then (.zero, 400)
    else if verF v = false then (.zero, 400)
    else if v.getD 5 0 ≠ 49 ∨ 49 < v.getD 7 0 then (.zero, 505)
    else if 2048 < t.length then (.zero, 414)
    else if targetF t = false then (.zero, 400)
    else match fieldsF ls 0 with
      | .inl s => (.zero, s)
      | .inr fs => if hostsF fs ((v.getD 7 0 - 48).toNat : Int) then (⟨m, t, ((v.getD 7 0 - 48).toNat : Int), fs⟩, 200) else (.zero, 400)
  | _ => (.zero, 400)
def parseF (b : List UInt8) : HeadV × Int :=
  if 4096 < b.length then (.zero, 431)
  else match linesF b with
    | none => (.zero, 400)
    | some [] => (.zero, 400)
    | some (l0 :: ls) => headF l0 ls
def CLEN : List UInt8 := [99, 111, 110, 116, 101, 110, 116, 45, 108, 101, 110, 103, 116, 104]
def TENC : List UInt8 := [116, 114, 97, 110, 115, 102, 101, 114, 45, 101, 110, 99, 111, 100, 105, 110, 103]
def CONN : List UInt8 := [99, 111, 110, 110, 101, 99, 116, 105, 111, 110]
def CLOSE : List UInt8 := [99, 108, 111, 115, 101]
def ALIVE : List UInt8 := [107, 101, 101, 112, 45, 97, 108, 105, 118, 101]
def sizeF (s : List UInt8) : Option Nat := if s.length ≤ 10 then Go.Lib.decNat s else none
def lengthF (fs : List Fld) : Int × Int :=
  if 0 < (fieldF fs TENC).2 then (0, 501)
  else match allF fs CLEN with
    | [] => (-1, 200)
    | f :: r => if r.all (fun s => decide (s = f)) then
        (match sizeF f with
          | none => (0, 400)
          | some n => if 65535 < n then (0, 413) else ((n : Int), 200))
      else (0, 400)
def wordsF (fs : List Fld) : List (List UInt8) := (allF fs CONN).flatMap fun v => (spF 44 v).map fun x => lowerF (trimF x)
def goesF : Bool → List (List UInt8) → Bool
  | k, [] => k
  | k, w :: r => if w = CLOSE then false else goesF (k || decide (w = ALIVE)) r
def keepF (fs : List Fld) (minor : Int) : Bool := goesF (decide (minor = 1)) (wordsF fs)
end Go.Proofs.YtbfabhdfmoiabaaGreatDoor
namespace Go.Proofs.YtbfabhdfmoiabaaGreatDoor
set_option linter.unusedVariables false
set_option linter.unusedSimpArgs false
set_option maxRecDepth 100000
structure Tabs (w0 : World) (base : Nat) : Prop where
  lt : 3 < base
  lt2 : 4 < base
  first : ∀ c, c < 256 → w0.cell? ⟨3, c, none⟩ = some (.int .u8 (Lib.firstT c))
  lt0 : 0 < base
  max : ∃ m : Int, w0.cell? ⟨0, 0, none⟩ = some (int m)
  acc : ∀ i, i < 16 → w0.cell? ⟨4, 2 * i, none⟩ = some (.int .u8 (Lib.accLo i)) ∧ w0.cell? ⟨4, 2 * i + 1, none⟩ = some (.int .u8 (Lib.accHi i))
theorem Tabs.one {w0 : World} {base : Nat} {H : List Seg} (T : Tabs w0 base) (u : UInt8) {x : Int} (h : (Lib.firstT u.toNat : Int) = x) : Cell w0 base H (eaddr (some ⟨3, 0, none⟩) (u.toNat * 1)) (.int .u8 x) := by
  rw [← h]
  exact Cell.tab T.lt (T.first _ u.toNat_lt)
end Go.Proofs.YtbfabhdfmoiabaaGreatDoor
namespace Go.Proofs.YtbfabhdfmoiabaaGreatDoor
set_option linter.unusedVariables false
set_option linter.unusedSimpArgs false
set_option maxRecDepth 100000
open Go
structure ItV where
  st : Int
  hd : HeadV
  body : List UInt8
  keep : Bool
deriving DecidableEq
inductive HR where
  | wait
  | ends (s : Int)
  | ready (hd : HeadV) (long body : Nat) (keep : Bool)
def CR2 : List UInt8 := [13, 10, 13, 10]
def EXPECT : List UInt8 := [101, 120, 112, 101, 99, 116]
def POSTH : List UInt8 := [80, 79, 83, 84]
def askR (b : List UInt8) (long : Nat) : HR :=
  if ¬ (parseF (b.take long)).2 = 200 then .ends (parseF (b.take long)).2
  else if 0 < (fieldF (parseF (b.take long)).1.fs EXPECT).2 then .ends 417
  else if ¬ (lengthF (parseF (b.take long)).1.fs).2 = 200 then .ends (lengthF (parseF (b.take long)).1.fs).2
  else if (lengthF (parseF (b.take long)).1.fs).1 < 0 ∧ (parseF (b.take long)).1.m = POSTH then .ends 411
  else .ready (parseF (b.take long)).1 long (lengthF (parseF (b.take long)).1.fs).1.toNat (keepF (parseF (b.take long)).1.fs (parseF (b.take long)).1.minor)
def headF14 (b : List UInt8) : HR :=
  if Go.Lib.index b CR2 < 0 ∨ 4096 < Go.Lib.index b CR2 + 4 then (if 4096 < b.length then .ends 431 else .wait)
  else askR b ((Go.Lib.index b CR2).toNat + 4)
end Go.Proofs.YtbfabhdfmoiabaaGreatDoor
