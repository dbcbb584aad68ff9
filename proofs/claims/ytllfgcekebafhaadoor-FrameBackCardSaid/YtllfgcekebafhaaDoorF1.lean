/- bytes.Buffer, as a part of a reader. -/
import Derived.Test.YtllfgcekebafhaaDoorK1
namespace Go.Proofs.YtllfgcekebafhaaDoor
set_option linter.unusedVariables false
set_option linter.unusedSimpArgs false
set_option maxRecDepth 100000

set_option maxHeartbeats 400000 in
theorem blen_ok {w0 : World} {base : Nat} {H : List Seg} {b : Nat} {y : Sl tyB 5} {m e lr : Int} {br : Bool} {off : Nat} (hl : y.l.length ≤ 1000000000) (ho : off ≤ y.l.length) :
    SCalls Tryd.prog 35 [.pointer (some ⟨b, 2, none⟩)] w0 base (y.s :: [(b, .cells #[.int .i64 m, .bool br, .slice y.A y.l.length y.C, .int .i64 (off : Int), .int .i8 lr, .int .i64 e] 56 (0, 0))] :: H) (fun v H' => v = int ((y.l.length - off : Nat) : Int) ∧ H' = y.s :: [(b, .cells #[.int .i64 m, .bool br, .slice y.A y.l.length y.C, .int .i64 (off : Int), .int .i8 lr, .int .i64 e] 56 (0, 0))] :: H) := by
  refine SCalls.of_walk (n := 13) Tryd.func35 rfl rfl rfl fun cs => ?_
  refine At.seq ?_
  refine At.region ?_
  refine AtL.assign (.inl rfl) rfl rfl ?_
  refine AtL.done ?_
  refine At.seq ?_
  refine At.draw (es := []) (pv := [(0, .pointer (some ⟨b, 2, none⟩)), (1, .pointer (some ⟨b, 2, none⟩)), (2, .pointer (some ⟨b, 2, none⟩)), (3, .slice y.A y.l.length y.C), (4, .int .i64 (y.l.length : Int)), (5, .pointer (some ⟨b, 2, none⟩)), (6, .pointer (some ⟨b, 2, none⟩)), (7, .pointer (some ⟨b, 3, none⟩)), (8, .int .i64 (off : Int)), (9, .int .i64 ((y.l.length - off : Nat) : Int)), (10, .int .i64 ((y.l.length - off : Nat) : Int))]) tf_mixed (by kernel_rfl) (by kernel_rfl) (by kernel_rfl) ?_
  refine ⟨⟨.inr ⟨_, rfl, rfl, .inl ⟨rfl, Do.move rfl⟩⟩, .inr ⟨_, rfl, rfl, .inl ⟨rfl, Do.nilCheck rfl⟩⟩, .inr ⟨_, rfl, rfl, .inl ⟨rfl, Do.fieldAddrB tf_fo54_0 rfl rfl⟩⟩, .inr ⟨_, rfl, rfl, .inl ⟨rfl, Do.load tf_flat22 rfl (Cell.own 1 0 rfl rfl rfl)⟩⟩, .inr ⟨_, rfl, rfl, .inl ⟨rfl, Do.lenL Tryd.underlying22 rfl⟩⟩, .inr ⟨_, rfl, rfl, .inl ⟨rfl, Do.move rfl⟩⟩, .inr ⟨_, rfl, rfl, .inl ⟨rfl, Do.nilCheck rfl⟩⟩, .inr ⟨_, rfl, rfl, .inl ⟨rfl, Do.fieldAddrB tf_fo54_1 rfl rfl⟩⟩, .inr ⟨_, rfl, rfl, .inl ⟨rfl, Do.load tf_flat3 rfl (Cell.own 1 0 rfl rfl rfl)⟩⟩, .inr ⟨_, rfl, rfl, .inl ⟨rfl, Do.sub (z := ((y.l.length - off : Nat) : Int)) rfl rfl (by rw [w64 (by omega) (by omega)]; omega)⟩⟩, .inr ⟨_, rfl, rfl, .inl ⟨rfl, Do.assign rfl⟩⟩, trivial⟩, by kernel_rfl, ?_⟩
  refine At.mono (E' := [(2, .int .i64 ((y.l.length - off : Nat) : Int))]) ⟨rfl, trivial⟩ ?_
  exact At.ret Tryd.func35 rfl rfl (⟨rfl, rfl⟩)

set_option maxHeartbeats 400000 in
theorem bbytes_ok {w0 : World} {base : Nat} {H : List Seg} {b : Nat} {y : Sl tyB 5} {m e lr : Int} {br : Bool} {off : Nat} (hl : y.l.length ≤ 1000000000) (ho : off ≤ y.l.length) :
    SCalls Tryd.prog 42 [.pointer (some ⟨b, 2, none⟩)] w0 base (y.s :: [(b, .cells #[.int .i64 m, .bool br, .slice y.A y.l.length y.C, .int .i64 (off : Int), .int .i8 lr, .int .i64 e] 56 (0, 0))] :: H) (fun v H' => ∃ A' C', Own tyB 5 A' C' (subl y.l off y.l.length) y.s ∧ v = .slice A' (subl y.l off y.l.length).length C' ∧ H' = y.s :: [(b, .cells #[.int .i64 m, .bool br, .slice y.A y.l.length y.C, .int .i64 (off : Int), .int .i8 lr, .int .i64 e] 56 (0, 0))] :: H) := by
  refine SCalls.of_walk (n := 12) Tryd.func42 rfl rfl rfl fun cs => ?_
  refine At.seq ?_
  refine At.region ?_
  refine AtL.assign (.inl rfl) rfl rfl ?_
  refine AtL.done ?_
  refine At.seq ?_
  have hleo3 := Own.le_cap y.own
  obtain ⟨A1, eA1⟩ : ∃ A1 : Option Addr, A1 = (if y.C = off then y.A else Option.map (fun a => a.add (off * tyB.sz)) y.A) := ⟨_, rfl⟩
  obtain ⟨C2, eC2⟩ : ∃ C2 : Nat, C2 = y.C - off := ⟨_, rfl⟩
  have o3 : Own tyB 5 A1 C2 (subl y.l off y.l.length) y.s := by rw [eA1, eC2]; exact Own.cut y.own (by omega) (by omega) (by omega) (by omega)
  refine At.draw (es := []) (pv := [(0, .pointer (some ⟨b, 2, none⟩)), (1, .pointer (some ⟨b, 2, none⟩)), (2, .pointer (some ⟨b, 2, none⟩)), (3, .slice y.A y.l.length y.C), (4, .pointer (some ⟨b, 2, none⟩)), (5, .pointer (some ⟨b, 2, none⟩)), (6, .pointer (some ⟨b, 3, none⟩)), (7, .int .i64 (off : Int)), (8, .slice A1 (subl y.l off y.l.length).length C2), (9, .slice A1 (subl y.l off y.l.length).length C2)]) tf_mixed (by kernel_rfl) (by kernel_rfl) (by kernel_rfl) ?_
  refine ⟨⟨.inr ⟨_, rfl, rfl, .inl ⟨rfl, Do.move rfl⟩⟩, .inr ⟨_, rfl, rfl, .inl ⟨rfl, Do.nilCheck rfl⟩⟩, .inr ⟨_, rfl, rfl, .inl ⟨rfl, Do.fieldAddrB tf_fo54_0 rfl rfl⟩⟩, .inr ⟨_, rfl, rfl, .inl ⟨rfl, Do.load tf_flat22 rfl (Cell.own 1 0 rfl rfl rfl)⟩⟩, .inr ⟨_, rfl, rfl, .inl ⟨rfl, Do.move rfl⟩⟩, .inr ⟨_, rfl, rfl, .inl ⟨rfl, Do.nilCheck rfl⟩⟩, .inr ⟨_, rfl, rfl, .inl ⟨rfl, Do.fieldAddrB tf_fo54_1 rfl rfl⟩⟩, .inr ⟨_, rfl, rfl, .inl ⟨rfl, Do.load tf_flat3 rfl (Cell.own 1 0 rfl rfl rfl)⟩⟩, .inr ⟨_, rfl, rfl, .inl ⟨rfl, Do.sliceX_ (T := tyB) (l := y.l) off y.l.length y.C (evBound_some rfl rfl) rfl rfl (by intro h; cases h) (by omega) (by omega) (Nat.le_refl _) Tryd.underlying22 tf_sz5 rfl eA1 (subl_len (l := y.l) (i := off) (j := y.l.length) (by omega)) eC2⟩⟩, .inr ⟨_, rfl, rfl, .inl ⟨rfl, Do.assign rfl⟩⟩, trivial⟩, by kernel_rfl, ?_⟩
  refine At.mono (E' := [(2, .slice A1 (subl y.l off y.l.length).length C2)]) ⟨rfl, trivial⟩ ?_
  exact At.ret Tryd.func42 rfl rfl (⟨_, _, o3, rfl, rfl⟩)

set_option maxHeartbeats 400000 in
theorem breset_ok {w0 : World} {base : Nat} {H : List Seg} {b : Nat} {y : Sl tyB 5} {m e lr : Int} {br : Bool} {off : Nat} :
    SCalls Tryd.prog 34 [.pointer (some ⟨b, 2, none⟩)] w0 base (y.s :: [(b, .cells #[.int .i64 m, .bool br, .slice y.A y.l.length y.C, .int .i64 (off : Int), .int .i8 lr, .int .i64 e] 56 (0, 0))] :: H) (fun v H' => ∃ z : Sl tyB 5, z.l = [] ∧ z.C ≤ y.C ∧ v = .tuple #[] ∧ H' = z.s :: [(b, .cells #[.int .i64 m, .bool br, .slice z.A z.l.length z.C, .int .i64 0, .int .i8 0, .int .i64 e] 56 (0, 0))] :: H) := by
  refine SCalls.of_walk (n := 16) Tryd.func34 rfl rfl rfl fun cs => ?_
  refine At.seq ?_
  refine At.region ?_
  refine AtL.move (.inl rfl) rfl rfl ?_
  refine AtL.move (.inl rfl) rfl rfl ?_
  refine AtL.nilCheck (.inl rfl) rfl rfl ?_
  refine AtL.fieldAddrB tf_fo54_0 (.inl rfl) rfl rfl rfl ?_
  refine AtL.load tf_flat22 (.inl rfl) rfl rfl (Cell.own 1 0 rfl rfl rfl) ?_
  have hleo3 := Own.le_cap y.own
  obtain ⟨A1, eA1⟩ : ∃ A1 : Option Addr, A1 = (if y.C = 0 then y.A else Option.map (fun a => a.add (0 * tyB.sz)) y.A) := ⟨_, rfl⟩
  obtain ⟨C2, eC2⟩ : ∃ C2 : Nat, C2 = y.C - 0 := ⟨_, rfl⟩
  have o3 : Own tyB 5 A1 C2 (subl y.l 0 0) y.s := by rw [eA1, eC2]; exact Own.cut y.own (by omega) (by omega) (by omega) (by omega)
  refine AtL.ofIs (Do.sliceX_ (T := tyB) (l := y.l) 0 0 y.C rfl (evBound_some rfl rfl) rfl (by intro h; cases h) (by omega) (by omega) (Nat.le_refl _) Tryd.underlying22 tf_sz5 rfl eA1 (subl_len (l := y.l) (i := 0) (j := 0) (by omega)) eC2) (.inl rfl) rfl ?_
  have hlo3 : (subl y.l 0 0).length = 0 - 0 := subl_len (by omega)
  refine AtL.nilCheck (.inl rfl) rfl rfl ?_
  refine AtL.fieldAddrB tf_fo54_0 (.inl rfl) rfl rfl rfl ?_
  refine AtL.store (H' := y.s :: [(b, .cells #[.int .i64 m, .bool br, .slice A1 (subl y.l 0 0).length C2, .int .i64 (off : Int), .int .i8 lr, .int .i64 e] 56 (0, 0))] :: H) 1 0 tf_sz22 (.inl rfl) rfl rfl rfl rfl rfl rfl rfl rfl rfl ?_
  refine AtL.done ?_
  refine At.seq ?_
  refine At.region ?_
  refine AtL.move (.inl rfl) rfl rfl ?_
  refine AtL.nilCheck (.inl rfl) rfl rfl ?_
  refine AtL.fieldAddrB tf_fo54_1 (.inl rfl) rfl rfl rfl ?_
  refine AtL.store (H' := y.s :: [(b, .cells #[.int .i64 m, .bool br, .slice A1 (subl y.l 0 0).length C2, .int .i64 0, .int .i8 lr, .int .i64 e] 56 (0, 0))] :: H) 1 0 tf_sz3 (.inl rfl) rfl rfl rfl rfl rfl rfl rfl rfl rfl ?_
  refine AtL.done ?_
  refine At.region ?_
  refine AtL.move (.inl rfl) rfl rfl ?_
  refine AtL.nilCheck (.inl rfl) rfl rfl ?_
  refine AtL.fieldAddrB tf_fo54_2 (.inl rfl) rfl rfl rfl ?_
  refine AtL.store (H' := y.s :: [(b, .cells #[.int .i64 m, .bool br, .slice A1 (subl y.l 0 0).length C2, .int .i64 0, .int .i8 0, .int .i64 e] 56 (0, 0))] :: H) 1 0 tf_sz52 (.inl rfl) rfl rfl rfl rfl rfl rfl rfl rfl rfl ?_
  refine AtL.done ?_
  exact At.end_ Tryd.func34 rfl rfl (⟨⟨A1, C2, subl y.l 0 0, y.s, o3⟩, by simp [subl], by dsimp only; omega, rfl, rfl⟩)

set_option maxHeartbeats 400000 in
theorem btry_ok {w0 : World} {base : Nat} {H : List Seg} {b : Nat} {y : Sl tyB 5} {m e lr : Int} {br : Bool} {off : Nat} (n : Nat) (hl : y.l.length ≤ 1000000000) (hn : n ≤ 1000000000) :
    SCalls Tryd.prog 37 [.pointer (some ⟨b, 2, none⟩), .int .i64 (n : Int)] w0 base (y.s :: [(b, .cells #[.int .i64 m, .bool br, .slice y.A y.l.length y.C, .int .i64 (off : Int), .int .i8 lr, .int .i64 e] 56 (0, 0))] :: H) (fun v H' => ∃ (z : Sl tyB 5) (ok : Bool) (k : Nat), (ok = true → k = y.l.length ∧ z.l.take y.l.length = y.l ∧ z.l.length = y.l.length + n) ∧ (ok = false → z.l = y.l ∧ z.C < y.l.length + n) ∧ v = .tuple #[int (k : Int), .bool ok] ∧ H' = z.s :: [(b, .cells #[.int .i64 m, .bool br, .slice z.A z.l.length z.C, .int .i64 (off : Int), .int .i8 lr, .int .i64 e] 56 (0, 0))] :: H) := by
  have hcap := Own.cap_le y.own
  have hcap2 := Own.le_cap y.own
  refine SCalls.of_walk (n := 33) Tryd.func37 rfl rfl rfl fun cs => ?_
  refine At.seq ?_
  refine At.region ?_
  refine AtL.assign (.inl rfl) rfl rfl ?_
  refine AtL.assign (.inl rfl) rfl rfl ?_
  refine AtL.done ?_
  refine At.seq ?_
  refine At.seq ?_
  refine At.region ?_
  refine AtL.move (.inl rfl) rfl rfl ?_
  refine AtL.nilCheck (.inl rfl) rfl rfl ?_
  refine AtL.fieldAddrB tf_fo54_0 (.inl rfl) rfl rfl rfl ?_
  refine AtL.load tf_flat22 (.inl rfl) rfl rfl (Cell.own 1 0 rfl rfl rfl) ?_
  refine AtL.lenL Tryd.underlying22 (.inl rfl) rfl rfl ?_
  refine AtL.assign (.inl rfl) rfl rfl ?_
  refine AtL.done ?_
  refine At.seq ?_
  refine At.region ?_
  refine AtL.move (.inl rfl) rfl rfl ?_
  refine AtL.move (.inl rfl) rfl rfl ?_
  refine AtL.nilCheck (.inl rfl) rfl rfl ?_
  refine AtL.fieldAddrB tf_fo54_0 (.inl rfl) rfl rfl rfl ?_
  refine AtL.load tf_flat22 (.inl rfl) rfl rfl (Cell.own 1 0 rfl rfl rfl) ?_
  refine AtL.capL Tryd.underlying22 (.inl rfl) rfl rfl ?_
  refine AtL.move (.inl rfl) rfl rfl ?_
  refine AtL.sub (z := (y.C : Int) - (y.l.length : Int)) (.inl rfl) rfl rfl rfl (w64 (by omega) (by omega)) ?_
  refine AtL.leq (.inl rfl) rfl rfl rfl ?_
  refine AtL.done ?_
  refine At.cond rfl ?_ ?_
  · intro hc1
    have hc1 : (n : Int) ≤ ((y.C : Int) - (y.l.length : Int)) := of_decide_eq_true hc1
    refine At.seq ?_
    refine At.region ?_
    refine AtL.move (.inl rfl) rfl rfl ?_
    refine AtL.move (.inl rfl) rfl rfl ?_
    refine AtL.nilCheck (.inl rfl) rfl rfl ?_
    refine AtL.fieldAddrB tf_fo54_0 (.inl rfl) rfl rfl rfl ?_
    refine AtL.load tf_flat22 (.inl rfl) rfl rfl (Cell.own 1 0 rfl rfl rfl) ?_
    refine AtL.move (.inl rfl) rfl rfl ?_
    refine AtL.move (.inl rfl) rfl rfl ?_
    refine AtL.add (z := (y.l.length : Int) + (n : Int)) (.inl rfl) rfl rfl rfl (w64 (by omega) (by omega)) ?_
    obtain ⟨r1, hr2, o3⟩ := Own.grow y.own (j := y.l.length + n) (by omega) (by omega)
    obtain ⟨A4, eA4⟩ : ∃ A4 : Option Addr, A4 = (if y.C = 0 then y.A else Option.map (fun a => a.add (0 * tyB.sz)) y.A) := ⟨_, rfl⟩
    rw [← eA4] at o3
    refine AtL.ofIs (Do.sliceX_ (T := tyB) (l := y.l) (n' := (y.l ++ r1).length) (C' := y.C) 0 (y.l.length + n) y.C rfl (evBound_some rfl (by simp)) rfl (by intro h; cases h) (Nat.zero_le _) (by omega) (Nat.le_refl _) Tryd.underlying22 tf_sz5 rfl eA4 (by rw [List.length_append, hr2]; omega) (by omega)) (.inl rfl) rfl ?_
    refine AtL.nilCheck (.inl rfl) rfl rfl ?_
    refine AtL.fieldAddrB tf_fo54_0 (.inl rfl) rfl rfl rfl ?_
    refine AtL.store (H' := y.s :: [(b, .cells #[.int .i64 m, .bool br, .slice A4 (y.l ++ r1).length y.C, .int .i64 (off : Int), .int .i8 lr, .int .i64 e] 56 (0, 0))] :: H) 1 0 tf_sz22 (.inl rfl) rfl rfl rfl rfl rfl rfl rfl rfl rfl ?_
    refine AtL.done ?_
    refine At.seq ?_
    refine At.region ?_
    refine AtL.move (.inl rfl) rfl rfl ?_
    refine AtL.assign (.inl rfl) rfl rfl ?_
    refine AtL.assign (.inl rfl) rfl rfl ?_
    refine AtL.done ?_
    exact At.ret Tryd.func37 rfl rfl (⟨⟨A4, y.C, y.l ++ r1, y.s, o3⟩, true, y.l.length, fun _ => ⟨rfl, by simp, by simp only [List.length_append, hr2]; omega⟩, (fun h => by cases h), rfl, rfl⟩)
  · intro hc1
    have hc1 : ¬ ((n : Int) ≤ ((y.C : Int) - (y.l.length : Int))) := of_decide_eq_false hc1
    refine At.skip ?_
    refine At.seq ?_
    refine At.region ?_
    refine AtL.assign (.inl rfl) rfl rfl ?_
    refine AtL.assign (.inl rfl) rfl rfl ?_
    refine AtL.done ?_
    exact At.ret Tryd.func37 rfl rfl (⟨y, false, 0, (fun h => by cases h), fun _ => ⟨rfl, by have := Own.le_cap y.own; omega⟩, rfl, rfl⟩)

theorem grow_take (l z : List UInt8) (h : l.length ≤ z.length) : subl (l.take z.length ++ z.drop l.length) 0 (min l.length z.length) = l := by
  rw [subl_to, List.take_of_length_le h, Nat.min_eq_left h, List.take_left]

set_option maxHeartbeats 400000 in
theorem grow1_ret {w0 : World} {base : Nat} {H : List Seg}  :
    DCalls Tryd.prog 44 [] w0 base (H) .returning (fun m' H' => m' = .returning ∧ H' = H) := by
  refine DCalls.of_walk (n := 3) Tryd.func44 rfl rfl rfl fun fr cs => ?_
  refine At.seq ?_
  refine At.region ?_
  refine AtL.recoverNone rfl ?_
  refine AtL.neNilIface Tryd.underlying20 (.inl rfl) rfl rfl ?_
  refine AtL.done ?_
  refine At.condF rfl ?_
  refine At.skip ?_
  refine At.endU rfl ?_
  exact Un.leftD (vs := []) Tryd.func44 rfl trivial (⟨rfl, rfl⟩)

set_option maxHeartbeats 400000 in
theorem growsl_ok {w0 : World} {base : Nat} {H : List Seg} {A : Option Addr} {C : Nat} {l : List UInt8} (h : Rd tyB w0 base H A C l) (n : Nat) (h0 : 1 ≤ n) (hl : l.length ≤ 1000000000) (hn : n ≤ 1000000000) (hC : C ≤ 2000000000) :
    SCalls Tryd.prog 43 [.slice A l.length C, .int .i64 (n : Int)] w0 base (H) (fun v H' => ∃ z : Sl tyB 5, z.l = l ∧ l.length + n ≤ z.C ∧ v = .slice z.A z.l.length z.C ∧ H' = z.s :: H) := by
  refine SCalls.of_walk (n := 28) Tryd.func43 rfl rfl rfl fun cs => ?_
  refine At.seq ?_
  refine At.region ?_
  refine AtL.assign (.inl rfl) rfl rfl ?_
  refine AtL.done ?_
  refine At.seq ?_
  refine At.region ?_
  refine AtL.defer rfl (.inl rfl) rfl rfl rfl ?_
  refine AtL.done ?_
  refine At.seq ?_
  refine At.region ?_
  refine AtL.move (.inl rfl) rfl rfl ?_
  refine AtL.lenL Tryd.underlying22 (.inl rfl) rfl rfl ?_
  refine AtL.move (.inl rfl) rfl rfl ?_
  refine AtL.add (z := (l.length : Int) + (n : Int)) (.inl rfl) rfl rfl rfl (w64 (by omega) (by omega)) ?_
  refine AtL.assign (.inl rfl) rfl rfl ?_
  refine AtL.done ?_
  refine At.seq ?_
  refine At.seq ?_
  refine At.region ?_
  refine AtL.move (.inl rfl) rfl rfl ?_
  refine AtL.move (.inl rfl) rfl rfl ?_
  refine AtL.capL Tryd.underlying22 (.inl rfl) rfl rfl ?_
  refine AtL.mul (z := 2 * (C : Int)) (.inl rfl) rfl rfl rfl (w64 (by omega) (by omega)) ?_
  refine AtL.lss (.inl rfl) rfl rfl rfl ?_
  refine AtL.done ?_
  refine At.cond rfl ?_ ?_
  · intro hc1
    have hc1 : ((l.length : Int) + (n : Int)) < (2 * (C : Int)) := of_decide_eq_true hc1
    refine At.region ?_
    refine AtL.move (.inl rfl) rfl rfl ?_
    refine AtL.capL Tryd.underlying22 (.inl rfl) rfl rfl ?_
    refine AtL.mul (z := 2 * (C : Int)) (.inl rfl) rfl rfl rfl (w64 (by omega) (by omega)) ?_
    refine AtL.assign (.inl rfl) rfl rfl ?_
    refine AtL.done ?_
    refine At.seq ?_
    refine At.region ?_
    refine AtL.move (.inl rfl) rfl rfl ?_
    refine AtL.nil ?_
    refine AtL.appendZ (l := []) (m := 2 * C) 0 tf_el22 Tryd.underlying3 rfl (Own.nil tyB 5) (by decide) (by omega) (by first | omega | (simp only [List.length_append, List.length_cons, List.length_nil]; omega) | (simp; done) | (simp; omega)) (by first | omega | (simp only [List.length_append, List.length_cons, List.length_nil]; omega) | (simp; done) | (simp; omega)) (.inl rfl) rfl rfl rfl ?_
    intro A1 C2 s3 o4
    refine AtL.assign (.inl rfl) rfl rfl ?_
    refine AtL.done ?_
    have hb3 : ([] ++ List.replicate (2 * C) (0 : UInt8)).length = 2 * C := by simp
    refine At.seq ?_
    refine At.region ?_
    refine AtL.move (.inl rfl) rfl rfl ?_
    refine AtL.move (.inl rfl) rfl rfl ?_
    refine AtL.copy 0 Tryd.underlying22 tf_sz5 rfl o4 (Rd.skip 1 h) (.inl rfl) rfl rfl rfl ?_
    intro s5 o6
    refine AtL.relen (m := (l.take ([] ++ List.replicate (2 * C) (0 : UInt8)).length ++ ([] ++ List.replicate (2 * C) (0 : UInt8)).drop l.length).length) 6 rfl (copy_len _ _) ?_
    refine AtL.assign (.inl rfl) rfl rfl ?_
    refine AtL.done ?_
    have hb2 : (l.take ([] ++ List.replicate (2 * C) (0 : UInt8)).length ++ ([] ++ List.replicate (2 * C) (0 : UInt8)).drop l.length).length = 2 * C := by rw [copy_len]; simp
    refine At.seq ?_
    refine At.region ?_
    refine AtL.move (.inl rfl) rfl rfl ?_
    refine AtL.move (.inl rfl) rfl rfl ?_
    have hleo9 := Own.le_cap o6
    obtain ⟨A7, eA7⟩ : ∃ A7 : Option Addr, A7 = (if C2 = 0 then A1 else Option.map (fun a => a.add (0 * tyB.sz)) A1) := ⟨_, rfl⟩
    obtain ⟨C8, eC8⟩ : ∃ C8 : Nat, C8 = C2 - 0 := ⟨_, rfl⟩
    have o9 : Own tyB 5 A7 C8 (subl (l.take ([] ++ List.replicate (2 * C) (0 : UInt8)).length ++ ([] ++ List.replicate (2 * C) (0 : UInt8)).drop l.length) 0 (min l.length ([] ++ List.replicate (2 * C) (0 : UInt8)).length : Nat)) s5 := by rw [eA7, eC8]; exact Own.cut o6 (by omega) (by omega) (by omega) (by omega)
    refine AtL.ofIs (Do.sliceX_ (T := tyB) (l := l.take ([] ++ List.replicate (2 * C) (0 : UInt8)).length ++ ([] ++ List.replicate (2 * C) (0 : UInt8)).drop l.length) 0 (min l.length ([] ++ List.replicate (2 * C) (0 : UInt8)).length : Nat) C2 rfl (evBound_some rfl rfl) rfl (by intro h; cases h) (by omega) (by omega) (Nat.le_refl _) Tryd.underlying22 tf_sz5 rfl eA7 (subl_len (l := l.take ([] ++ List.replicate (2 * C) (0 : UInt8)).length ++ ([] ++ List.replicate (2 * C) (0 : UInt8)).drop l.length) (i := 0) (j := (min l.length ([] ++ List.replicate (2 * C) (0 : UInt8)).length : Nat)) (by omega)) eC8) (.inl rfl) rfl ?_
    have hlo9 : (subl (l.take ([] ++ List.replicate (2 * C) (0 : UInt8)).length ++ ([] ++ List.replicate (2 * C) (0 : UInt8)).drop l.length) 0 (min l.length ([] ++ List.replicate (2 * C) (0 : UInt8)).length : Nat)).length = (min l.length ([] ++ List.replicate (2 * C) (0 : UInt8)).length : Nat) - 0 := subl_len (by omega)
    refine AtL.assign (.inl rfl) rfl rfl ?_
    refine AtL.done ?_
    refine At.retU rfl ?_
    refine Un.defer tf_body44 rfl rfl grow1_ret ?_
    rintro _ _ ⟨rfl, rfl⟩
    exact Un.leftP (vs := [.slice A7 (subl (l.take ([] ++ List.replicate (2 * C) (0 : UInt8)).length ++ ([] ++ List.replicate (2 * C) (0 : UInt8)).drop l.length) 0 (min l.length ([] ++ List.replicate (2 * C) (0 : UInt8)).length : Nat)).length C8]) (H2 := s5 :: H) [0] 1 rfl rfl Tryd.func43 rfl ⟨rfl, trivial⟩ (⟨⟨A7, C8, subl (l.take ([] ++ List.replicate (2 * C) (0 : UInt8)).length ++ ([] ++ List.replicate (2 * C) (0 : UInt8)).drop l.length) 0 (min l.length ([] ++ List.replicate (2 * C) (0 : UInt8)).length : Nat), s5, o9⟩, grow_take l _ (by rw [hb3]; omega), by dsimp only; omega, rfl, rfl⟩)
  · intro hc1
    have hc1 : ¬ (((l.length : Int) + (n : Int)) < (2 * (C : Int))) := of_decide_eq_false hc1
    refine At.skip ?_
    refine At.seq ?_
    refine At.region ?_
    refine AtL.move (.inl rfl) rfl rfl ?_
    refine AtL.nil ?_
    refine AtL.appendZ (l := []) (m := l.length + n) 0 tf_el22 Tryd.underlying3 rfl (Own.nil tyB 5) (by decide) (by omega) (by first | omega | (simp only [List.length_append, List.length_cons, List.length_nil]; omega) | (simp; done) | (simp; omega)) (by first | omega | (simp only [List.length_append, List.length_cons, List.length_nil]; omega) | (simp; done) | (simp; omega)) (.inl rfl) rfl rfl rfl ?_
    intro A10 C11 s12 o13
    refine AtL.assign (.inl rfl) rfl rfl ?_
    refine AtL.done ?_
    have hb3 : ([] ++ List.replicate (l.length + n) (0 : UInt8)).length = l.length + n := by simp
    refine At.seq ?_
    refine At.region ?_
    refine AtL.move (.inl rfl) rfl rfl ?_
    refine AtL.move (.inl rfl) rfl rfl ?_
    refine AtL.copy 0 Tryd.underlying22 tf_sz5 rfl o13 (Rd.skip 1 h) (.inl rfl) rfl rfl rfl ?_
    intro s14 o15
    refine AtL.relen (m := (l.take ([] ++ List.replicate (l.length + n) (0 : UInt8)).length ++ ([] ++ List.replicate (l.length + n) (0 : UInt8)).drop l.length).length) 6 rfl (copy_len _ _) ?_
    refine AtL.assign (.inl rfl) rfl rfl ?_
    refine AtL.done ?_
    have hb2 : (l.take ([] ++ List.replicate (l.length + n) (0 : UInt8)).length ++ ([] ++ List.replicate (l.length + n) (0 : UInt8)).drop l.length).length = l.length + n := by rw [copy_len]; simp
    refine At.seq ?_
    refine At.region ?_
    refine AtL.move (.inl rfl) rfl rfl ?_
    refine AtL.move (.inl rfl) rfl rfl ?_
    have hleo18 := Own.le_cap o15
    obtain ⟨A16, eA16⟩ : ∃ A16 : Option Addr, A16 = (if C11 = 0 then A10 else Option.map (fun a => a.add (0 * tyB.sz)) A10) := ⟨_, rfl⟩
    obtain ⟨C17, eC17⟩ : ∃ C17 : Nat, C17 = C11 - 0 := ⟨_, rfl⟩
    have o18 : Own tyB 5 A16 C17 (subl (l.take ([] ++ List.replicate (l.length + n) (0 : UInt8)).length ++ ([] ++ List.replicate (l.length + n) (0 : UInt8)).drop l.length) 0 (min l.length ([] ++ List.replicate (l.length + n) (0 : UInt8)).length : Nat)) s14 := by rw [eA16, eC17]; exact Own.cut o15 (by omega) (by omega) (by omega) (by omega)
    refine AtL.ofIs (Do.sliceX_ (T := tyB) (l := l.take ([] ++ List.replicate (l.length + n) (0 : UInt8)).length ++ ([] ++ List.replicate (l.length + n) (0 : UInt8)).drop l.length) 0 (min l.length ([] ++ List.replicate (l.length + n) (0 : UInt8)).length : Nat) C11 rfl (evBound_some rfl rfl) rfl (by intro h; cases h) (by omega) (by omega) (Nat.le_refl _) Tryd.underlying22 tf_sz5 rfl eA16 (subl_len (l := l.take ([] ++ List.replicate (l.length + n) (0 : UInt8)).length ++ ([] ++ List.replicate (l.length + n) (0 : UInt8)).drop l.length) (i := 0) (j := (min l.length ([] ++ List.replicate (l.length + n) (0 : UInt8)).length : Nat)) (by omega)) eC17) (.inl rfl) rfl ?_
    have hlo18 : (subl (l.take ([] ++ List.replicate (l.length + n) (0 : UInt8)).length ++ ([] ++ List.replicate (l.length + n) (0 : UInt8)).drop l.length) 0 (min l.length ([] ++ List.replicate (l.length + n) (0 : UInt8)).length : Nat)).length = (min l.length ([] ++ List.replicate (l.length + n) (0 : UInt8)).length : Nat) - 0 := subl_len (by omega)
    refine AtL.assign (.inl rfl) rfl rfl ?_
    refine AtL.done ?_
    refine At.retU rfl ?_
    refine Un.defer tf_body44 rfl rfl grow1_ret ?_
    rintro _ _ ⟨rfl, rfl⟩
    exact Un.leftP (vs := [.slice A16 (subl (l.take ([] ++ List.replicate (l.length + n) (0 : UInt8)).length ++ ([] ++ List.replicate (l.length + n) (0 : UInt8)).drop l.length) 0 (min l.length ([] ++ List.replicate (l.length + n) (0 : UInt8)).length : Nat)).length C17]) (H2 := s14 :: H) [0] 1 rfl rfl Tryd.func43 rfl ⟨rfl, trivial⟩ (⟨⟨A16, C17, subl (l.take ([] ++ List.replicate (l.length + n) (0 : UInt8)).length ++ ([] ++ List.replicate (l.length + n) (0 : UInt8)).drop l.length) 0 (min l.length ([] ++ List.replicate (l.length + n) (0 : UInt8)).length : Nat), s14, o18⟩, grow_take l _ (by rw [hb3]; omega), by dsimp only; omega, rfl, rfl⟩)

set_option maxHeartbeats 400000 in
theorem bgrow_ok {w0 : World} {base : Nat} {H : List Seg} {b : Nat} {y : Sl tyB 5} {m e : Int} {br : Bool} {off : Nat} (n : Nat) (hl : y.l.length + n ≤ 500000000) (ho : off ≤ y.l.length) :
    SCalls Tryd.prog 38 [.pointer (some ⟨b, 2, none⟩), .int .i64 (n : Int)] w0 base (y.s :: [(b, .cells #[.int .i64 m, .bool br, .slice y.A y.l.length y.C, .int .i64 (off : Int), .int .i8 0, .int .i64 e] 56 (0, 0))] :: H) (fun v H' => ∃ (z : Sl tyB 5) (o' m' : Nat), o' ≤ m' ∧ m' ≤ y.l.length ∧ z.l.length = m' + n ∧ (z.l.take m').drop o' = y.l.drop off ∧ v = int (m' : Int) ∧ H' = z.s :: [(b, .cells #[.int .i64 m, .bool br, .slice z.A z.l.length z.C, .int .i64 (o' : Int), .int .i8 0, .int .i64 e] 56 (0, 0))] :: H) := by
  have hcap := Own.cap_le y.own
  have hcap2 := Own.le_cap y.own
  refine SCalls.of_walk (n := 110) Tryd.func38 rfl rfl rfl fun cs => ?_
  refine At.seq ?_
  refine At.region ?_
  refine AtL.assign (.inl rfl) rfl rfl ?_
  refine AtL.done ?_
  refine At.seq ?_
  refine At.region ?_
  refine AtL.move (.inl rfl) rfl rfl ?_
  refine AtL.call tf_body35 (.inl rfl) rfl rfl (blen_ok (y := y) (off := off) (by omega) (by omega)) ?_
  rintro _ _ ⟨rfl, rfl⟩
  refine AtL.assign (.inl rfl) rfl rfl ?_
  refine AtL.done ?_
  refine At.seq ?_
  refine At.seq ?_
  refine At.region ?_
  refine AtL.move (.inl rfl) rfl rfl ?_
  refine AtL.eqi (.inl rfl) rfl rfl rfl ?_
  refine AtL.move (.inl rfl) rfl rfl ?_
  refine AtL.join 6 (E' := [(19, .bool (decide ((((y.l.length - off : Nat) : Int) = 0) ∧ (¬ ((off : Int) = 0))))), (0, .pointer (some ⟨b, 2, none⟩)), (1, .int .i64 (n : Int)), (5, .int .i64 ((y.l.length - off : Nat) : Int))]) (H' := y.s :: [(b, .cells #[.int .i64 m, .bool br, .slice y.A y.l.length y.C, .int .i64 (off : Int), .int .i8 0, .int .i64 e] 56 (0, 0))] :: H) (fun J => ?_) ?_
  · refine AtL.split (t := 13) rfl ?_ ?_
    · intro hs13
      have hs13 : ((y.l.length - off : Nat) : Int) = 0 := of_decide_eq_true hs13
      refine AtL.move (.inr ⟨_, _, _, rfl, rfl, rfl, rfl⟩) rfl rfl ?_
      refine AtL.nilCheck (.inr ⟨_, _, _, rfl, rfl, rfl, rfl⟩) rfl rfl ?_
      refine AtL.fieldAddrB tf_fo54_1 (.inr ⟨_, _, _, rfl, rfl, rfl, rfl⟩) rfl rfl rfl ?_
      refine AtL.load tf_flat3 (.inr ⟨_, _, _, rfl, rfl, rfl, rfl⟩) rfl rfl (Cell.own 1 0 rfl rfl rfl) ?_
      refine AtL.nei (.inr ⟨_, _, _, rfl, rfl, rfl, rfl⟩) rfl rfl rfl ?_
      refine AtL.pickT (.inl rfl) rfl rfl rfl ?_
      exact J _ (by exact ⟨(boolIs (by clear J; first | (simp [hs13]; done) | (simp_all; done) | grind)), rfl, rfl, rfl, trivial⟩)
    · intro hs13
      have hs13 : ¬ (((y.l.length - off : Nat) : Int) = 0) := of_decide_eq_false hs13
      refine AtL.skipped rfl rfl rfl rfl rfl rfl ?_
      refine AtL.skipped rfl rfl rfl rfl rfl rfl ?_
      refine AtL.skipped rfl rfl rfl rfl rfl rfl ?_
      refine AtL.skipped rfl rfl rfl rfl rfl rfl ?_
      refine AtL.skipped rfl rfl rfl rfl rfl rfl ?_
      refine AtL.pickF (.inl rfl) rfl rfl rfl ?_
      exact J _ (by exact ⟨(boolIs (by clear J; first | (simp [hs13]; done) | (simp_all; done) | grind)), rfl, rfl, rfl, trivial⟩)
  · skip
    refine AtL.done ?_
    refine At.cond rfl ?_ ?_
    · intro hc1
      have hc1 : (((y.l.length - off : Nat) : Int) = 0) ∧ (¬ ((off : Int) = 0)) := of_decide_eq_true hc1
      refine At.region ?_
      refine AtL.move (.inl rfl) rfl rfl ?_
      refine AtL.call tf_body34 (.inl rfl) rfl rfl (breset_ok (y := y)) ?_
      rintro _ _ ⟨⟨A1, C2, l3, s4, o5⟩, h6, h7, rfl, rfl⟩
      obtain rfl : ([] : List UInt8) = l3 := h6.symm
      have hrc := h7
      dsimp only at hrc
      refine AtL.done ?_
      refine At.seq ?_
      refine At.seq ?_
      refine At.region ?_
      refine AtL.move (.inl rfl) rfl rfl ?_
      refine AtL.move (.inl rfl) rfl rfl ?_
      refine AtL.call tf_body37 (.inl rfl) rfl rfl (btry_ok (y := ⟨A1, C2, ([] : List UInt8), s4, o5⟩) n (by first | omega | (simp only [List.length_append, List.length_cons, List.length_nil, subl]; omega) | (simp [subl]; done) | (simp [subl]; omega)) (by omega)) ?_
      rintro _ _ ⟨⟨A8, C9, l10, s11, o12⟩, ok13, k16, h14, h15, rfl, rfl⟩
      have hok1 := h14
      have hok2 := h15
      dsimp only at hok1 hok2
      refine AtL.move (.inl rfl) rfl rfl ?_
      refine AtL.extract (.inl rfl) rfl rfl rfl ?_
      refine AtL.extract (.inl rfl) rfl rfl rfl ?_
      refine AtL.assign (.inl rfl) rfl rfl ?_
      refine AtL.assign (.inl rfl) rfl rfl ?_
      refine AtL.done ?_
      refine At.seq ?_
      refine At.region ?_
      refine AtL.move (.inl rfl) rfl rfl ?_
      refine AtL.done ?_
      refine At.cond rfl ?_ ?_
      · intro hc2
        have hc2 : ok13 = true := hc2
        obtain ⟨hzk, hzt, hzn⟩ := hok1 hc2
        refine At.seq ?_
        refine At.region ?_
        refine AtL.move (.inl rfl) rfl rfl ?_
        refine AtL.assign (.inl rfl) rfl rfl ?_
        refine AtL.done ?_
        have hd : y.l.drop off = [] := List.drop_eq_nil_of_le (by omega)
        try dsimp only [List.length_nil, List.take_zero] at hzt hzn
        exact At.ret Tryd.func38 rfl rfl (⟨⟨A8, C9, l10, s11, o12⟩, 0, 0, by omega, by omega, by dsimp only; omega, by rw [hd]; simp, congrArg int (by rw [hzk]; rfl), rfl⟩)
      · intro hc2
        have hc2 : ok13 = false := hc2
        obtain ⟨hzl, hzC⟩ := hok2 hc2
        try simp only [List.length_nil] at hzC
        subst hzl
        refine At.skip ?_
        refine At.seq ?_
        refine At.seq ?_
        refine At.region ?_
        refine AtL.move (.inl rfl) rfl rfl ?_
        refine AtL.nilCheck (.inl rfl) rfl rfl ?_
        refine AtL.fieldAddrB tf_fo54_0 (.inl rfl) rfl rfl rfl ?_
        refine AtL.load tf_flat22 (.inl rfl) rfl rfl (Cell.own 1 0 rfl rfl rfl) ?_
        refine AtL.eqSliceNil Tryd.underlying22 (.inl rfl) rfl rfl rfl ?_
        refine AtL.move (.inl rfl) rfl rfl ?_
        refine AtL.join 3 (E' := [(38, .bool (decide ((A8.isNone = true) ∧ ((n : Int) ≤ 64)))), (0, .pointer (some ⟨b, 2, none⟩)), (1, .int .i64 (n : Int)), (5, .int .i64 ((y.l.length - off : Nat) : Int))]) (H' := s11 :: [(b, .cells #[.int .i64 m, .bool br, .slice A8 ([] : List UInt8).length C9, .int .i64 0, .int .i8 0, .int .i64 e] 56 (0, 0))] :: H) (fun J => ?_) ?_
        · refine AtL.split (t := 35) rfl ?_ ?_
          · intro hs35
            have hs35 : A8.isNone = true := hs35
            refine AtL.move (.inr ⟨_, _, _, rfl, rfl, rfl, rfl⟩) rfl rfl ?_
            refine AtL.leq (.inr ⟨_, _, _, rfl, rfl, rfl, rfl⟩) rfl rfl rfl ?_
            refine AtL.pickT (.inl rfl) rfl rfl rfl ?_
            exact J _ (by exact ⟨(boolIs (by clear J; first | (simp [hs35]; done) | (simp_all; done) | grind)), rfl, rfl, rfl, trivial⟩)
          · intro hs35
            have hs35 : A8.isNone = false := hs35
            refine AtL.skipped rfl rfl rfl rfl rfl rfl ?_
            refine AtL.skipped rfl rfl rfl rfl rfl rfl ?_
            refine AtL.pickF (.inl rfl) rfl rfl rfl ?_
            exact J _ (by exact ⟨(boolIs (by clear J; first | (simp [hs35]; done) | (simp_all; done) | grind)), rfl, rfl, rfl, trivial⟩)
        · skip
          refine AtL.done ?_
          refine At.cond rfl ?_ ?_
          · intro hc3
            have hc3 : (A8.isNone = true) ∧ ((n : Int) ≤ 64) := of_decide_eq_true hc3
            refine At.seq ?_
            refine At.region ?_
            refine AtL.move (.inl rfl) rfl rfl ?_
            refine AtL.move (.inl rfl) rfl rfl ?_
            refine AtL.makeSlice (n := n) (c := 64) tf_el22 (by decide) (.inl rfl) rfl rfl rfl (by omega) (by omega) ?_
            intro A17 s18 o19 q20
            refine AtL.nilCheck (.inl rfl) rfl rfl ?_
            refine AtL.fieldAddrB tf_fo54_0 (.inl rfl) rfl rfl rfl ?_
            refine AtL.store (H' := s18 :: s11 :: [(b, .cells #[.int .i64 m, .bool br, .slice A17 (List.replicate n (0 : UInt8)).length 64, .int .i64 0, .int .i8 0, .int .i64 e] 56 (0, 0))] :: H) 2 0 tf_sz22 (.inl rfl) rfl rfl rfl rfl rfl rfl rfl rfl rfl ?_
            refine AtL.done ?_
            refine At.seq ?_
            refine At.region ?_
            refine AtL.assign (.inl rfl) rfl rfl ?_
            refine AtL.done ?_
            refine At.pick (H' := s18 :: [(b, .cells #[.int .i64 m, .bool br, .slice A17 (List.replicate n (0 : UInt8)).length 64, .int .i64 0, .int .i8 0, .int .i64 e] 56 (0, 0))] :: H) [0, 2] 3 rfl rfl ?_
            have hd : y.l.drop off = [] := List.drop_eq_nil_of_le (by omega)
            have hn0 := hd
            exact At.ret Tryd.func38 rfl rfl (⟨⟨A17, 64, List.replicate n (0 : UInt8), s18, o19⟩, 0, 0, by omega, by omega, by simp, by rw [hn0]; simp, congrArg int (rfl), rfl⟩)
          · intro hc3
            have hc3 : ¬ ((A8.isNone = true) ∧ ((n : Int) ≤ 64)) := of_decide_eq_false hc3
            refine At.skip ?_
            refine At.seq ?_
            refine At.region ?_
            refine AtL.move (.inl rfl) rfl rfl ?_
            refine AtL.nilCheck (.inl rfl) rfl rfl ?_
            refine AtL.fieldAddrB tf_fo54_0 (.inl rfl) rfl rfl rfl ?_
            refine AtL.load tf_flat22 (.inl rfl) rfl rfl (Cell.own 1 0 rfl rfl rfl) ?_
            refine AtL.capL Tryd.underlying22 (.inl rfl) rfl rfl ?_
            refine AtL.assign (.inl rfl) rfl rfl ?_
            refine AtL.done ?_
            refine At.seq ?_
            refine At.seq ?_
            refine At.region ?_
            refine AtL.move (.inl rfl) rfl rfl ?_
            refine AtL.move (.inl rfl) rfl rfl ?_
            refine AtL.quo (z := (C9 : Int) / 2) (.inl rfl) rfl rfl rfl (by omega) (quo_eq (by omega) (by omega) (by omega)) ?_
            refine AtL.move (.inl rfl) rfl rfl ?_
            refine AtL.sub (z := ((C9 : Int) / 2) - ((y.l.length - off : Nat) : Int)) (.inl rfl) rfl rfl rfl (w64 (by omega) (by omega)) ?_
            refine AtL.leq (.inl rfl) rfl rfl rfl ?_
            refine AtL.done ?_
            refine At.condIs false rfl (decide_eq_false (by omega)) ?_
            refine At.seq ?_
            refine At.region ?_
            refine AtL.move (.inl rfl) rfl rfl ?_
            refine AtL.move (.inl rfl) rfl rfl ?_
            refine AtL.sub (z := 9223372036854775807 - (C9 : Int)) (.inl rfl) rfl rfl rfl (w64 (by omega) (by omega)) ?_
            refine AtL.move (.inl rfl) rfl rfl ?_
            refine AtL.sub (z := (9223372036854775807 - (C9 : Int)) - (n : Int)) (.inl rfl) rfl rfl rfl (w64 (by omega) (by omega)) ?_
            refine AtL.gtr (.inl rfl) rfl rfl rfl ?_
            refine AtL.done ?_
            refine At.condIs false rfl (decide_eq_false (by omega)) ?_
            have hleo23 := Own.le_cap o12
            obtain ⟨A21, eA21⟩ : ∃ A21 : Option Addr, A21 = (if C9 = 0 then A8 else Option.map (fun a => a.add (0 * tyB.sz)) A8) := ⟨_, rfl⟩
            obtain ⟨C22, eC22⟩ : ∃ C22 : Nat, C22 = C9 - 0 := ⟨_, rfl⟩
            have o23 : Own tyB 5 A21 C22 (subl ([] : List UInt8) 0 ([] : List UInt8).length) s11 := by rw [eA21, eC22]; exact Own.cut o12 (by omega) (by omega) (by omega) (by omega)
            refine At.draw (es := [16, 19]) (pv := [(0, .pointer (some ⟨b, 2, none⟩)), (1, .pointer (some ⟨b, 2, none⟩)), (2, .pointer (some ⟨b, 2, none⟩)), (3, .pointer (some ⟨b, 2, none⟩)), (4, .slice A8 ([] : List UInt8).length C9), (5, .pointer (some ⟨b, 2, none⟩)), (6, .pointer (some ⟨b, 2, none⟩)), (7, .pointer (some ⟨b, 3, none⟩)), (8, .int .i64 0), (9, .slice A21 (subl ([] : List UInt8) 0 ([] : List UInt8).length).length C22), (10, .pointer (some ⟨b, 2, none⟩)), (11, .pointer (some ⟨b, 2, none⟩)), (12, .pointer (some ⟨b, 3, none⟩)), (13, .int .i64 0), (14, .int .i64 (n : Int)), (15, .int .i64 (0 + (n : Int)))]) tf_mixed (by kernel_rfl) (by kernel_rfl) (by kernel_rfl) ?_
            refine ⟨⟨.inr ⟨_, rfl, rfl, .inl ⟨rfl, Do.move rfl⟩⟩, .inr ⟨_, rfl, rfl, .inl ⟨rfl, Do.move rfl⟩⟩, .inr ⟨_, rfl, rfl, .inl ⟨rfl, Do.nilCheck rfl⟩⟩, .inr ⟨_, rfl, rfl, .inl ⟨rfl, Do.fieldAddrB tf_fo54_0 rfl rfl⟩⟩, .inr ⟨_, rfl, rfl, .inl ⟨rfl, Do.load tf_flat22 rfl (Cell.own 1 0 rfl rfl rfl)⟩⟩, .inr ⟨_, rfl, rfl, .inl ⟨rfl, Do.move rfl⟩⟩, .inr ⟨_, rfl, rfl, .inl ⟨rfl, Do.nilCheck rfl⟩⟩, .inr ⟨_, rfl, rfl, .inl ⟨rfl, Do.fieldAddrB tf_fo54_1 rfl rfl⟩⟩, .inr ⟨_, rfl, rfl, .inl ⟨rfl, Do.load tf_flat3 rfl (Cell.own 1 0 rfl rfl rfl)⟩⟩, .inr ⟨_, rfl, rfl, .inl ⟨rfl, Do.sliceX_ (T := tyB) (l := ([] : List UInt8)) 0 ([] : List UInt8).length C9 (evBound_some rfl rfl) rfl rfl (by intro h; cases h) (by omega) (by omega) (Nat.le_refl _) Tryd.underlying22 tf_sz5 rfl eA21 (subl_len (l := ([] : List UInt8)) (i := 0) (j := ([] : List UInt8).length) (by omega)) eC22⟩⟩, .inr ⟨_, rfl, rfl, .inl ⟨rfl, Do.move rfl⟩⟩, .inr ⟨_, rfl, rfl, .inl ⟨rfl, Do.nilCheck rfl⟩⟩, .inr ⟨_, rfl, rfl, .inl ⟨rfl, Do.fieldAddrB tf_fo54_1 rfl rfl⟩⟩, .inr ⟨_, rfl, rfl, .inl ⟨rfl, Do.load tf_flat3 rfl (Cell.own 1 0 rfl rfl rfl)⟩⟩, .inr ⟨_, rfl, rfl, .inl ⟨rfl, Do.move rfl⟩⟩, .inr ⟨_, rfl, rfl, .inl ⟨rfl, Do.add (z := 0 + (n : Int)) rfl rfl (w64 (by omega) (by omega))⟩⟩, trivial⟩, rfl, rfl, by kernel_rfl, _, rfl, rfl, rfl, _, Do.call tf_body43 rfl (growsl_ok (l := subl ([] : List UInt8) 0 ([] : List UInt8).length) (o23.rd (i := 0) rfl) (0 + n) (by omega) (by first | omega | (simp only [List.length_append, List.length_cons, List.length_nil, subl]; omega) | (simp [subl]; done) | (simp [subl]; omega)) (by omega) (by omega)), ?_⟩
            rintro _ _ ⟨⟨A24, C25, l26, s27, o28⟩, h29, h30, rfl, rfl⟩
            obtain rfl : subl ([] : List UInt8) 0 ([] : List UInt8).length = l26 := h29.symm
            have hgs := h30
            dsimp only at hgs
            refine ⟨[(17, .pointer (some ⟨b, 2, none⟩)), (18, .pointer (some ⟨b, 2, none⟩))], rfl, ?_⟩
            refine ⟨⟨.inr ⟨_, rfl, rfl, .inl ⟨rfl, Do.nilCheck rfl⟩⟩, .inr ⟨_, rfl, rfl, .inl ⟨rfl, Do.fieldAddrB tf_fo54_0 rfl rfl⟩⟩, .inr ⟨_, rfl, rfl, .inl ⟨rfl, Do.move rfl⟩⟩, .inl (by kernel_rfl), .inl (by kernel_rfl), .inl (by kernel_rfl), .inl (by kernel_rfl), .inl (by kernel_rfl), .inl (by kernel_rfl), .inl (by kernel_rfl), .inl (by kernel_rfl), .inl (by kernel_rfl), .inl (by kernel_rfl), .inl (by kernel_rfl), .inl (by kernel_rfl), .inl (by kernel_rfl), .inl (by kernel_rfl), .inl (by kernel_rfl), trivial⟩, rfl, rfl, by kernel_rfl, _, rfl, rfl, rfl, _, Do.store (H' := s27 :: s11 :: [(b, .cells #[.int .i64 m, .bool br, .slice A24 (subl ([] : List UInt8) 0 ([] : List UInt8).length).length C25, .int .i64 0, .int .i8 0, .int .i64 e] 56 (0, 0))] :: H) 2 0 tf_sz22 rfl rfl rfl rfl rfl rfl rfl rfl rfl, ?_⟩
            rintro _ _ ⟨rfl, rfl⟩
            refine ⟨[], rfl, ?_⟩
            refine ⟨⟨.inl (by kernel_rfl), .inl (by kernel_rfl), .inl (by kernel_rfl), .inl (by kernel_rfl), .inl (by kernel_rfl), .inl (by kernel_rfl), .inl (by kernel_rfl), .inl (by kernel_rfl), .inl (by kernel_rfl), .inl (by kernel_rfl), .inl (by kernel_rfl), .inl (by kernel_rfl), .inl (by kernel_rfl), .inl (by kernel_rfl), .inl (by kernel_rfl), .inl (by kernel_rfl), .inl (by kernel_rfl), .inl (by kernel_rfl), trivial⟩, by kernel_rfl, ?_⟩
            refine At.mono (E' := [(0, .pointer (some ⟨b, 2, none⟩)), (1, .int .i64 (n : Int)), (5, .int .i64 ((y.l.length - off : Nat) : Int))]) ⟨rfl, rfl, rfl, trivial⟩ ?_
            refine At.seq ?_
            refine At.region ?_
            refine AtL.move (.inl rfl) rfl rfl ?_
            refine AtL.nilCheck (.inl rfl) rfl rfl ?_
            refine AtL.fieldAddrB tf_fo54_1 (.inl rfl) rfl rfl rfl ?_
            refine AtL.store (H' := s27 :: s11 :: [(b, .cells #[.int .i64 m, .bool br, .slice A24 (subl ([] : List UInt8) 0 ([] : List UInt8).length).length C25, .int .i64 0, .int .i8 0, .int .i64 e] 56 (0, 0))] :: H) 2 0 tf_sz3 (.inl rfl) rfl rfl rfl rfl rfl rfl rfl rfl rfl ?_
            refine AtL.done ?_
            refine At.seq ?_
            refine At.region ?_
            refine AtL.move (.inl rfl) rfl rfl ?_
            refine AtL.move (.inl rfl) rfl rfl ?_
            refine AtL.nilCheck (.inl rfl) rfl rfl ?_
            refine AtL.fieldAddrB tf_fo54_0 (.inl rfl) rfl rfl rfl ?_
            refine AtL.load tf_flat22 (.inl rfl) rfl rfl (Cell.own 2 0 rfl rfl rfl) ?_
            refine AtL.move (.inl rfl) rfl rfl ?_
            refine AtL.move (.inl rfl) rfl rfl ?_
            refine AtL.add (z := ((y.l.length - off : Nat) : Int) + (n : Int)) (.inl rfl) rfl rfl rfl (w64 (by omega) (by omega)) ?_
            have hz0 : (subl ([] : List UInt8) 0 ([] : List UInt8).length).length = 0 := by simp [subl]
            obtain ⟨r38, hr39, o40⟩ := Own.grow o28 (j := (y.l.length - off) + n) (by omega) (by omega)
            obtain ⟨A41, eA41⟩ : ∃ A41 : Option Addr, A41 = (if C25 = 0 then A24 else Option.map (fun a => a.add (0 * tyB.sz)) A24) := ⟨_, rfl⟩
            rw [← eA41] at o40
            refine AtL.ofIs (Do.sliceX_ (T := tyB) (l := subl ([] : List UInt8) 0 ([] : List UInt8).length) (n' := ((subl ([] : List UInt8) 0 ([] : List UInt8).length) ++ r38).length) (C' := C25) 0 ((y.l.length - off) + n) C25 rfl (evBound_some rfl (by omega)) rfl (by intro h; cases h) (Nat.zero_le _) (by omega) (Nat.le_refl _) Tryd.underlying22 tf_sz5 rfl eA41 (by rw [List.length_append, hr39]; omega) (by omega)) (.inl rfl) rfl ?_
            refine AtL.nilCheck (.inl rfl) rfl rfl ?_
            refine AtL.fieldAddrB tf_fo54_0 (.inl rfl) rfl rfl rfl ?_
            refine AtL.store (H' := s27 :: s11 :: [(b, .cells #[.int .i64 m, .bool br, .slice A41 ((subl ([] : List UInt8) 0 ([] : List UInt8).length) ++ r38).length C25, .int .i64 0, .int .i8 0, .int .i64 e] 56 (0, 0))] :: H) 2 0 tf_sz22 (.inl rfl) rfl rfl rfl rfl rfl rfl rfl rfl rfl ?_
            refine AtL.done ?_
            refine At.seq ?_
            refine At.region ?_
            refine AtL.move (.inl rfl) rfl rfl ?_
            refine AtL.assign (.inl rfl) rfl rfl ?_
            refine AtL.done ?_
            refine At.pick (H' := s27 :: [(b, .cells #[.int .i64 m, .bool br, .slice A41 ((subl ([] : List UInt8) 0 ([] : List UInt8).length) ++ r38).length C25, .int .i64 0, .int .i8 0, .int .i64 e] 56 (0, 0))] :: H) [0, 2] 3 rfl rfl ?_
            have hd : y.l.drop off = [] := List.drop_eq_nil_of_le (by omega)
            exact At.ret Tryd.func38 rfl rfl (⟨⟨A41, C25, (subl ([] : List UInt8) 0 ([] : List UInt8).length) ++ r38, s27, o40⟩, 0, 0, by omega, by omega, by dsimp only; rw [List.length_append, hr39]; omega, by rw [hd]; simp, congrArg int (by omega), rfl⟩)
    · intro hc1
      have hc1 : ¬ ((((y.l.length - off : Nat) : Int) = 0) ∧ (¬ ((off : Int) = 0))) := of_decide_eq_false hc1
      refine At.skip ?_
      refine At.seq ?_
      refine At.seq ?_
      refine At.region ?_
      refine AtL.move (.inl rfl) rfl rfl ?_
      refine AtL.move (.inl rfl) rfl rfl ?_
      refine AtL.call tf_body37 (.inl rfl) rfl rfl (btry_ok (y := y) n (by first | omega | (simp only [List.length_append, List.length_cons, List.length_nil, subl]; omega) | (simp [subl]; done) | (simp [subl]; omega)) (by omega)) ?_
      rintro _ _ ⟨⟨A42, C43, l44, s45, o46⟩, ok47, k50, h48, h49, rfl, rfl⟩
      have hok1 := h48
      have hok2 := h49
      dsimp only at hok1 hok2
      refine AtL.move (.inl rfl) rfl rfl ?_
      refine AtL.extract (.inl rfl) rfl rfl rfl ?_
      refine AtL.extract (.inl rfl) rfl rfl rfl ?_
      refine AtL.assign (.inl rfl) rfl rfl ?_
      refine AtL.assign (.inl rfl) rfl rfl ?_
      refine AtL.done ?_
      refine At.seq ?_
      refine At.region ?_
      refine AtL.move (.inl rfl) rfl rfl ?_
      refine AtL.done ?_
      refine At.cond rfl ?_ ?_
      · intro hc2
        have hc2 : ok47 = true := hc2
        obtain ⟨hzk, hzt, hzn⟩ := hok1 hc2
        refine At.seq ?_
        refine At.region ?_
        refine AtL.move (.inl rfl) rfl rfl ?_
        refine AtL.assign (.inl rfl) rfl rfl ?_
        refine AtL.done ?_
        try dsimp only [List.length_nil, List.take_zero] at hzt hzn
        exact At.ret Tryd.func38 rfl rfl (⟨⟨A42, C43, l44, s45, o46⟩, off, y.l.length, by omega, by omega, hzn, by dsimp only; rw [hzt], congrArg int (by rw [hzk]), rfl⟩)
      · intro hc2
        have hc2 : ok47 = false := hc2
        obtain ⟨hzl, hzC⟩ := hok2 hc2
        try simp only [List.length_nil] at hzC
        subst hzl
        refine At.skip ?_
        refine At.seq ?_
        refine At.seq ?_
        refine At.region ?_
        refine AtL.move (.inl rfl) rfl rfl ?_
        refine AtL.nilCheck (.inl rfl) rfl rfl ?_
        refine AtL.fieldAddrB tf_fo54_0 (.inl rfl) rfl rfl rfl ?_
        refine AtL.load tf_flat22 (.inl rfl) rfl rfl (Cell.own 1 0 rfl rfl rfl) ?_
        refine AtL.eqSliceNil Tryd.underlying22 (.inl rfl) rfl rfl rfl ?_
        refine AtL.move (.inl rfl) rfl rfl ?_
        refine AtL.join 3 (E' := [(38, .bool (decide ((A42.isNone = true) ∧ ((n : Int) ≤ 64)))), (0, .pointer (some ⟨b, 2, none⟩)), (1, .int .i64 (n : Int)), (5, .int .i64 ((y.l.length - off : Nat) : Int))]) (H' := s45 :: [(b, .cells #[.int .i64 m, .bool br, .slice A42 y.l.length C43, .int .i64 (off : Int), .int .i8 0, .int .i64 e] 56 (0, 0))] :: H) (fun J => ?_) ?_
        · refine AtL.split (t := 35) rfl ?_ ?_
          · intro hs35
            have hs35 : A42.isNone = true := hs35
            refine AtL.move (.inr ⟨_, _, _, rfl, rfl, rfl, rfl⟩) rfl rfl ?_
            refine AtL.leq (.inr ⟨_, _, _, rfl, rfl, rfl, rfl⟩) rfl rfl rfl ?_
            refine AtL.pickT (.inl rfl) rfl rfl rfl ?_
            exact J _ (by exact ⟨(boolIs (by clear J; first | (simp [hs35]; done) | (simp_all; done) | grind)), rfl, rfl, rfl, trivial⟩)
          · intro hs35
            have hs35 : A42.isNone = false := hs35
            refine AtL.skipped rfl rfl rfl rfl rfl rfl ?_
            refine AtL.skipped rfl rfl rfl rfl rfl rfl ?_
            refine AtL.pickF (.inl rfl) rfl rfl rfl ?_
            exact J _ (by exact ⟨(boolIs (by clear J; first | (simp [hs35]; done) | (simp_all; done) | grind)), rfl, rfl, rfl, trivial⟩)
        · skip
          refine AtL.done ?_
          refine At.cond rfl ?_ ?_
          · intro hc3
            have hc3 : (A42.isNone = true) ∧ ((n : Int) ≤ 64) := of_decide_eq_true hc3
            refine At.seq ?_
            refine At.region ?_
            refine AtL.move (.inl rfl) rfl rfl ?_
            refine AtL.move (.inl rfl) rfl rfl ?_
            refine AtL.makeSlice (n := n) (c := 64) tf_el22 (by decide) (.inl rfl) rfl rfl rfl (by omega) (by omega) ?_
            intro A51 s52 o53 q54
            refine AtL.nilCheck (.inl rfl) rfl rfl ?_
            refine AtL.fieldAddrB tf_fo54_0 (.inl rfl) rfl rfl rfl ?_
            refine AtL.store (H' := s52 :: s45 :: [(b, .cells #[.int .i64 m, .bool br, .slice A51 (List.replicate n (0 : UInt8)).length 64, .int .i64 (off : Int), .int .i8 0, .int .i64 e] 56 (0, 0))] :: H) 2 0 tf_sz22 (.inl rfl) rfl rfl rfl rfl rfl rfl rfl rfl rfl ?_
            refine AtL.done ?_
            refine At.seq ?_
            refine At.region ?_
            refine AtL.assign (.inl rfl) rfl rfl ?_
            refine AtL.done ?_
            refine At.pick (H' := s52 :: [(b, .cells #[.int .i64 m, .bool br, .slice A51 (List.replicate n (0 : UInt8)).length 64, .int .i64 (off : Int), .int .i8 0, .int .i64 e] 56 (0, 0))] :: H) [0, 2] 3 rfl rfl ?_
            have hy0 : y.l.length = 0 := by rw [Own.none_nil o46 (by simpa using hc3.1)]; rfl
            have hn0 : y.l.drop off = [] := by rw [List.eq_nil_of_length_eq_zero (l := y.l) (by omega)]; simp
            exact At.ret Tryd.func38 rfl rfl (⟨⟨A51, 64, List.replicate n (0 : UInt8), s52, o53⟩, off, 0, by omega, by omega, by simp, by rw [hn0]; simp, congrArg int (rfl), rfl⟩)
          · intro hc3
            have hc3 : ¬ ((A42.isNone = true) ∧ ((n : Int) ≤ 64)) := of_decide_eq_false hc3
            refine At.skip ?_
            refine At.seq ?_
            refine At.region ?_
            refine AtL.move (.inl rfl) rfl rfl ?_
            refine AtL.nilCheck (.inl rfl) rfl rfl ?_
            refine AtL.fieldAddrB tf_fo54_0 (.inl rfl) rfl rfl rfl ?_
            refine AtL.load tf_flat22 (.inl rfl) rfl rfl (Cell.own 1 0 rfl rfl rfl) ?_
            refine AtL.capL Tryd.underlying22 (.inl rfl) rfl rfl ?_
            refine AtL.assign (.inl rfl) rfl rfl ?_
            refine AtL.done ?_
            refine At.seq ?_
            refine At.seq ?_
            refine At.region ?_
            refine AtL.move (.inl rfl) rfl rfl ?_
            refine AtL.move (.inl rfl) rfl rfl ?_
            refine AtL.quo (z := (C43 : Int) / 2) (.inl rfl) rfl rfl rfl (by omega) (quo_eq (by omega) (by omega) (by omega)) ?_
            refine AtL.move (.inl rfl) rfl rfl ?_
            refine AtL.sub (z := ((C43 : Int) / 2) - ((y.l.length - off : Nat) : Int)) (.inl rfl) rfl rfl rfl (w64 (by omega) (by omega)) ?_
            refine AtL.leq (.inl rfl) rfl rfl rfl ?_
            refine AtL.done ?_
            refine At.cond rfl ?_ ?_
            · intro hc4
              have hc4 : (n : Int) ≤ (((C43 : Int) / 2) - ((y.l.length - off : Nat) : Int)) := of_decide_eq_true hc4
              have hleo57 := Own.le_cap o46
              obtain ⟨A55, eA55⟩ : ∃ A55 : Option Addr, A55 = (if C43 = off then A42 else Option.map (fun a => a.add (off * tyB.sz)) A42) := ⟨_, rfl⟩
              obtain ⟨C56, eC56⟩ : ∃ C56 : Nat, C56 = C43 - off := ⟨_, rfl⟩
              have o57 : Own tyB 5 A55 C56 (subl y.l off y.l.length) s45 := by rw [eA55, eC56]; exact Own.cut o46 (by omega) (by omega) (by omega) (by omega)
              refine At.draw (es := [13]) (pv := [(0, .pointer (some ⟨b, 2, none⟩)), (1, .pointer (some ⟨b, 2, none⟩)), (2, .pointer (some ⟨b, 2, none⟩)), (3, .slice A42 y.l.length C43), (4, .pointer (some ⟨b, 2, none⟩)), (5, .pointer (some ⟨b, 2, none⟩)), (6, .pointer (some ⟨b, 2, none⟩)), (7, .slice A42 y.l.length C43), (8, .pointer (some ⟨b, 2, none⟩)), (9, .pointer (some ⟨b, 2, none⟩)), (10, .pointer (some ⟨b, 3, none⟩)), (11, .int .i64 (off : Int)), (12, .slice A55 (subl y.l off y.l.length).length C56)]) tf_mixed (by kernel_rfl) (by kernel_rfl) (by kernel_rfl) ?_
              refine ⟨⟨.inr ⟨_, rfl, rfl, .inl ⟨rfl, Do.move rfl⟩⟩, .inr ⟨_, rfl, rfl, .inl ⟨rfl, Do.nilCheck rfl⟩⟩, .inr ⟨_, rfl, rfl, .inl ⟨rfl, Do.fieldAddrB tf_fo54_0 rfl rfl⟩⟩, .inr ⟨_, rfl, rfl, .inl ⟨rfl, Do.load tf_flat22 rfl (Cell.own 1 0 rfl rfl rfl)⟩⟩, .inr ⟨_, rfl, rfl, .inl ⟨rfl, Do.move rfl⟩⟩, .inr ⟨_, rfl, rfl, .inl ⟨rfl, Do.nilCheck rfl⟩⟩, .inr ⟨_, rfl, rfl, .inl ⟨rfl, Do.fieldAddrB tf_fo54_0 rfl rfl⟩⟩, .inr ⟨_, rfl, rfl, .inl ⟨rfl, Do.load tf_flat22 rfl (Cell.own 1 0 rfl rfl rfl)⟩⟩, .inr ⟨_, rfl, rfl, .inl ⟨rfl, Do.move rfl⟩⟩, .inr ⟨_, rfl, rfl, .inl ⟨rfl, Do.nilCheck rfl⟩⟩, .inr ⟨_, rfl, rfl, .inl ⟨rfl, Do.fieldAddrB tf_fo54_1 rfl rfl⟩⟩, .inr ⟨_, rfl, rfl, .inl ⟨rfl, Do.load tf_flat3 rfl (Cell.own 1 0 rfl rfl rfl)⟩⟩, .inr ⟨_, rfl, rfl, .inl ⟨rfl, Do.sliceX_ (T := tyB) (l := y.l) off y.l.length C43 (evBound_some rfl rfl) rfl rfl (by intro h; cases h) (by omega) (by omega) (Nat.le_refl _) Tryd.underlying22 tf_sz5 rfl eA55 (subl_len (l := y.l) (i := off) (j := y.l.length) (by omega)) eC56⟩⟩, trivial⟩, rfl, rfl, by kernel_rfl, _, rfl, rfl, rfl, _, Do.copy 0 Tryd.underlying22 tf_sz5 rfl o46 (o57.rd (i := 0) rfl) rfl rfl, ?_⟩
              rintro _ _ ⟨s58, o59, rfl, rfl⟩
              refine ⟨[], rfl, ?_⟩
              refine ⟨⟨.inl (by kernel_rfl), .inl (by kernel_rfl), .inl (by kernel_rfl), .inl (by kernel_rfl), .inl (by kernel_rfl), .inl (by kernel_rfl), .inl (by kernel_rfl), .inl (by kernel_rfl), .inl (by kernel_rfl), .inl (by kernel_rfl), .inl (by kernel_rfl), .inl (by kernel_rfl), .inl (by kernel_rfl), trivial⟩, by kernel_rfl, ?_⟩
              refine At.eqH (H' := s58 :: [(b, .cells #[.int .i64 m, .bool br, .slice A42 ((subl y.l off y.l.length).take y.l.length ++ y.l.drop (subl y.l off y.l.length).length).length C43, .int .i64 (off : Int), .int .i8 0, .int .i64 e] 56 (0, 0))] :: H) (by first | (rw [show ((subl y.l off y.l.length).take y.l.length ++ y.l.drop (subl y.l off y.l.length).length).length = y.l.length from (copy_len _ _)]; done) | (rw [show ((subl y.l off y.l.length).take y.l.length ++ y.l.drop (subl y.l off y.l.length).length).length = y.l.length from (copy_len _ _)]; rfl)) ?_
              refine At.mono (E' := [(0, .pointer (some ⟨b, 2, none⟩)), (1, .int .i64 (n : Int)), (5, .int .i64 ((y.l.length - off : Nat) : Int))]) ⟨rfl, rfl, rfl, trivial⟩ ?_
              have hb4 : ((subl y.l off y.l.length).take y.l.length ++ y.l.drop (subl y.l off y.l.length).length).length = y.l.length := copy_len _ _
              refine At.seq ?_
              refine At.region ?_
              refine AtL.move (.inl rfl) rfl rfl ?_
              refine AtL.nilCheck (.inl rfl) rfl rfl ?_
              refine AtL.fieldAddrB tf_fo54_1 (.inl rfl) rfl rfl rfl ?_
              refine AtL.store (H' := s58 :: [(b, .cells #[.int .i64 m, .bool br, .slice A42 ((subl y.l off y.l.length).take y.l.length ++ y.l.drop (subl y.l off y.l.length).length).length C43, .int .i64 0, .int .i8 0, .int .i64 e] 56 (0, 0))] :: H) 1 0 tf_sz3 (.inl rfl) rfl rfl rfl rfl rfl rfl rfl rfl rfl ?_
              refine AtL.done ?_
              refine At.seq ?_
              refine At.region ?_
              refine AtL.move (.inl rfl) rfl rfl ?_
              refine AtL.move (.inl rfl) rfl rfl ?_
              refine AtL.nilCheck (.inl rfl) rfl rfl ?_
              refine AtL.fieldAddrB tf_fo54_0 (.inl rfl) rfl rfl rfl ?_
              refine AtL.load tf_flat22 (.inl rfl) rfl rfl (Cell.own 1 0 rfl rfl rfl) ?_
              refine AtL.move (.inl rfl) rfl rfl ?_
              refine AtL.move (.inl rfl) rfl rfl ?_
              refine AtL.add (z := ((y.l.length - off : Nat) : Int) + (n : Int)) (.inl rfl) rfl rfl rfl (w64 (by omega) (by omega)) ?_
              have hleo64 := Own.le_cap o59
              obtain ⟨A62, eA62⟩ : ∃ A62 : Option Addr, A62 = (if C43 = 0 then A42 else Option.map (fun a => a.add (0 * tyB.sz)) A42) := ⟨_, rfl⟩
              obtain ⟨C63, eC63⟩ : ∃ C63 : Nat, C63 = C43 - 0 := ⟨_, rfl⟩
              have o64 : Own tyB 5 A62 C63 (subl ((subl y.l off y.l.length).take y.l.length ++ y.l.drop (subl y.l off y.l.length).length) 0 ((y.l.length - off : Nat) + n)) s58 := by rw [eA62, eC63]; exact Own.cut o59 (by omega) (by omega) (by omega) (by omega)
              refine AtL.ofIs (Do.sliceX_ (T := tyB) (l := (subl y.l off y.l.length).take y.l.length ++ y.l.drop (subl y.l off y.l.length).length) 0 ((y.l.length - off : Nat) + n) C43 rfl (evBound_some rfl rfl) rfl (by intro h; cases h) (by omega) (by omega) (Nat.le_refl _) Tryd.underlying22 tf_sz5 rfl eA62 (subl_len (l := (subl y.l off y.l.length).take y.l.length ++ y.l.drop (subl y.l off y.l.length).length) (i := 0) (j := ((y.l.length - off : Nat) + n)) (by omega)) eC63) (.inl rfl) rfl ?_
              have hlo64 : (subl ((subl y.l off y.l.length).take y.l.length ++ y.l.drop (subl y.l off y.l.length).length) 0 ((y.l.length - off : Nat) + n)).length = ((y.l.length - off : Nat) + n) - 0 := subl_len (by omega)
              refine AtL.nilCheck (.inl rfl) rfl rfl ?_
              refine AtL.fieldAddrB tf_fo54_0 (.inl rfl) rfl rfl rfl ?_
              refine AtL.store (H' := s58 :: [(b, .cells #[.int .i64 m, .bool br, .slice A62 (subl ((subl y.l off y.l.length).take y.l.length ++ y.l.drop (subl y.l off y.l.length).length) 0 ((y.l.length - off : Nat) + n)).length C63, .int .i64 0, .int .i8 0, .int .i64 e] 56 (0, 0))] :: H) 1 0 tf_sz22 (.inl rfl) rfl rfl rfl rfl rfl rfl rfl rfl rfl ?_
              refine AtL.done ?_
              refine At.seq ?_
              refine At.region ?_
              refine AtL.move (.inl rfl) rfl rfl ?_
              refine AtL.assign (.inl rfl) rfl rfl ?_
              refine AtL.done ?_
              have hsl : (subl y.l off y.l.length).length = y.l.length - off := subl_len (Nat.le_refl _)
              exact At.ret Tryd.func38 rfl rfl (⟨⟨A62, C63, subl ((subl y.l off y.l.length).take y.l.length ++ y.l.drop (subl y.l off y.l.length).length) 0 ((y.l.length - off : Nat) + n), s58, o64⟩, 0, y.l.length - off, by omega, by omega, by dsimp only; rw [subl_len (by omega)]; omega, by dsimp only; rw [subl_to, List.drop_zero, List.take_take, Nat.min_eq_left (by omega), List.take_append_of_le_length (by rw [List.length_take]; omega), List.take_of_length_le (by rw [List.length_take]; omega), List.take_of_length_le (by omega), subl_from], congrArg int (rfl), rfl⟩)
            · intro hc4
              have hc4 : ¬ ((n : Int) ≤ (((C43 : Int) / 2) - ((y.l.length - off : Nat) : Int))) := of_decide_eq_false hc4
              refine At.seq ?_
              refine At.region ?_
              refine AtL.move (.inl rfl) rfl rfl ?_
              refine AtL.move (.inl rfl) rfl rfl ?_
              refine AtL.sub (z := 9223372036854775807 - (C43 : Int)) (.inl rfl) rfl rfl rfl (w64 (by omega) (by omega)) ?_
              refine AtL.move (.inl rfl) rfl rfl ?_
              refine AtL.sub (z := (9223372036854775807 - (C43 : Int)) - (n : Int)) (.inl rfl) rfl rfl rfl (w64 (by omega) (by omega)) ?_
              refine AtL.gtr (.inl rfl) rfl rfl rfl ?_
              refine AtL.done ?_
              refine At.condIs false rfl (decide_eq_false (by omega)) ?_
              have hleo67 := Own.le_cap o46
              obtain ⟨A65, eA65⟩ : ∃ A65 : Option Addr, A65 = (if C43 = off then A42 else Option.map (fun a => a.add (off * tyB.sz)) A42) := ⟨_, rfl⟩
              obtain ⟨C66, eC66⟩ : ∃ C66 : Nat, C66 = C43 - off := ⟨_, rfl⟩
              have o67 : Own tyB 5 A65 C66 (subl y.l off y.l.length) s45 := by rw [eA65, eC66]; exact Own.cut o46 (by omega) (by omega) (by omega) (by omega)
              refine At.draw (es := [16, 19]) (pv := [(0, .pointer (some ⟨b, 2, none⟩)), (1, .pointer (some ⟨b, 2, none⟩)), (2, .pointer (some ⟨b, 2, none⟩)), (3, .pointer (some ⟨b, 2, none⟩)), (4, .slice A42 y.l.length C43), (5, .pointer (some ⟨b, 2, none⟩)), (6, .pointer (some ⟨b, 2, none⟩)), (7, .pointer (some ⟨b, 3, none⟩)), (8, .int .i64 (off : Int)), (9, .slice A65 (subl y.l off y.l.length).length C66), (10, .pointer (some ⟨b, 2, none⟩)), (11, .pointer (some ⟨b, 2, none⟩)), (12, .pointer (some ⟨b, 3, none⟩)), (13, .int .i64 (off : Int)), (14, .int .i64 (n : Int)), (15, .int .i64 ((off : Int) + (n : Int)))]) tf_mixed (by kernel_rfl) (by kernel_rfl) (by kernel_rfl) ?_
              refine ⟨⟨.inr ⟨_, rfl, rfl, .inl ⟨rfl, Do.move rfl⟩⟩, .inr ⟨_, rfl, rfl, .inl ⟨rfl, Do.move rfl⟩⟩, .inr ⟨_, rfl, rfl, .inl ⟨rfl, Do.nilCheck rfl⟩⟩, .inr ⟨_, rfl, rfl, .inl ⟨rfl, Do.fieldAddrB tf_fo54_0 rfl rfl⟩⟩, .inr ⟨_, rfl, rfl, .inl ⟨rfl, Do.load tf_flat22 rfl (Cell.own 1 0 rfl rfl rfl)⟩⟩, .inr ⟨_, rfl, rfl, .inl ⟨rfl, Do.move rfl⟩⟩, .inr ⟨_, rfl, rfl, .inl ⟨rfl, Do.nilCheck rfl⟩⟩, .inr ⟨_, rfl, rfl, .inl ⟨rfl, Do.fieldAddrB tf_fo54_1 rfl rfl⟩⟩, .inr ⟨_, rfl, rfl, .inl ⟨rfl, Do.load tf_flat3 rfl (Cell.own 1 0 rfl rfl rfl)⟩⟩, .inr ⟨_, rfl, rfl, .inl ⟨rfl, Do.sliceX_ (T := tyB) (l := y.l) off y.l.length C43 (evBound_some rfl rfl) rfl rfl (by intro h; cases h) (by omega) (by omega) (Nat.le_refl _) Tryd.underlying22 tf_sz5 rfl eA65 (subl_len (l := y.l) (i := off) (j := y.l.length) (by omega)) eC66⟩⟩, .inr ⟨_, rfl, rfl, .inl ⟨rfl, Do.move rfl⟩⟩, .inr ⟨_, rfl, rfl, .inl ⟨rfl, Do.nilCheck rfl⟩⟩, .inr ⟨_, rfl, rfl, .inl ⟨rfl, Do.fieldAddrB tf_fo54_1 rfl rfl⟩⟩, .inr ⟨_, rfl, rfl, .inl ⟨rfl, Do.load tf_flat3 rfl (Cell.own 1 0 rfl rfl rfl)⟩⟩, .inr ⟨_, rfl, rfl, .inl ⟨rfl, Do.move rfl⟩⟩, .inr ⟨_, rfl, rfl, .inl ⟨rfl, Do.add (z := (off : Int) + (n : Int)) rfl rfl (w64 (by omega) (by omega))⟩⟩, trivial⟩, rfl, rfl, by kernel_rfl, _, rfl, rfl, rfl, _, Do.call tf_body43 rfl (growsl_ok (l := subl y.l off y.l.length) (o67.rd (i := 0) rfl) (off + n) (by omega) (by first | omega | (simp only [List.length_append, List.length_cons, List.length_nil, subl]; omega) | (simp [subl]; done) | (simp [subl]; omega)) (by omega) (by omega)), ?_⟩
              rintro _ _ ⟨⟨A68, C69, l70, s71, o72⟩, h73, h74, rfl, rfl⟩
              obtain rfl : subl y.l off y.l.length = l70 := h73.symm
              have hgs := h74
              dsimp only at hgs
              refine ⟨[(17, .pointer (some ⟨b, 2, none⟩)), (18, .pointer (some ⟨b, 2, none⟩))], rfl, ?_⟩
              refine ⟨⟨.inr ⟨_, rfl, rfl, .inl ⟨rfl, Do.nilCheck rfl⟩⟩, .inr ⟨_, rfl, rfl, .inl ⟨rfl, Do.fieldAddrB tf_fo54_0 rfl rfl⟩⟩, .inr ⟨_, rfl, rfl, .inl ⟨rfl, Do.move rfl⟩⟩, .inl (by kernel_rfl), .inl (by kernel_rfl), .inl (by kernel_rfl), .inl (by kernel_rfl), .inl (by kernel_rfl), .inl (by kernel_rfl), .inl (by kernel_rfl), .inl (by kernel_rfl), .inl (by kernel_rfl), .inl (by kernel_rfl), .inl (by kernel_rfl), .inl (by kernel_rfl), .inl (by kernel_rfl), .inl (by kernel_rfl), .inl (by kernel_rfl), trivial⟩, rfl, rfl, by kernel_rfl, _, rfl, rfl, rfl, _, Do.store (H' := s71 :: s45 :: [(b, .cells #[.int .i64 m, .bool br, .slice A68 (subl y.l off y.l.length).length C69, .int .i64 (off : Int), .int .i8 0, .int .i64 e] 56 (0, 0))] :: H) 2 0 tf_sz22 rfl rfl rfl rfl rfl rfl rfl rfl rfl, ?_⟩
              rintro _ _ ⟨rfl, rfl⟩
              refine ⟨[], rfl, ?_⟩
              refine ⟨⟨.inl (by kernel_rfl), .inl (by kernel_rfl), .inl (by kernel_rfl), .inl (by kernel_rfl), .inl (by kernel_rfl), .inl (by kernel_rfl), .inl (by kernel_rfl), .inl (by kernel_rfl), .inl (by kernel_rfl), .inl (by kernel_rfl), .inl (by kernel_rfl), .inl (by kernel_rfl), .inl (by kernel_rfl), .inl (by kernel_rfl), .inl (by kernel_rfl), .inl (by kernel_rfl), .inl (by kernel_rfl), .inl (by kernel_rfl), trivial⟩, by kernel_rfl, ?_⟩
              refine At.mono (E' := [(0, .pointer (some ⟨b, 2, none⟩)), (1, .int .i64 (n : Int)), (5, .int .i64 ((y.l.length - off : Nat) : Int))]) ⟨rfl, rfl, rfl, trivial⟩ ?_
              refine At.seq ?_
              refine At.region ?_
              refine AtL.move (.inl rfl) rfl rfl ?_
              refine AtL.nilCheck (.inl rfl) rfl rfl ?_
              refine AtL.fieldAddrB tf_fo54_1 (.inl rfl) rfl rfl rfl ?_
              refine AtL.store (H' := s71 :: s45 :: [(b, .cells #[.int .i64 m, .bool br, .slice A68 (subl y.l off y.l.length).length C69, .int .i64 0, .int .i8 0, .int .i64 e] 56 (0, 0))] :: H) 2 0 tf_sz3 (.inl rfl) rfl rfl rfl rfl rfl rfl rfl rfl rfl ?_
              refine AtL.done ?_
              refine At.seq ?_
              refine At.region ?_
              refine AtL.move (.inl rfl) rfl rfl ?_
              refine AtL.move (.inl rfl) rfl rfl ?_
              refine AtL.nilCheck (.inl rfl) rfl rfl ?_
              refine AtL.fieldAddrB tf_fo54_0 (.inl rfl) rfl rfl rfl ?_
              refine AtL.load tf_flat22 (.inl rfl) rfl rfl (Cell.own 2 0 rfl rfl rfl) ?_
              refine AtL.move (.inl rfl) rfl rfl ?_
              refine AtL.move (.inl rfl) rfl rfl ?_
              refine AtL.add (z := ((y.l.length - off : Nat) : Int) + (n : Int)) (.inl rfl) rfl rfl rfl (w64 (by omega) (by omega)) ?_
              have hsl0 : (subl y.l off y.l.length).length = y.l.length - off := subl_len (Nat.le_refl _)
              obtain ⟨r82, hr83, o84⟩ := Own.grow o72 (j := (y.l.length - off) + n) (by omega) (by omega)
              obtain ⟨A85, eA85⟩ : ∃ A85 : Option Addr, A85 = (if C69 = 0 then A68 else Option.map (fun a => a.add (0 * tyB.sz)) A68) := ⟨_, rfl⟩
              rw [← eA85] at o84
              refine AtL.ofIs (Do.sliceX_ (T := tyB) (l := subl y.l off y.l.length) (n' := ((subl y.l off y.l.length) ++ r82).length) (C' := C69) 0 ((y.l.length - off) + n) C69 rfl (evBound_some rfl (by omega)) rfl (by intro h; cases h) (Nat.zero_le _) (by omega) (Nat.le_refl _) Tryd.underlying22 tf_sz5 rfl eA85 (by rw [List.length_append, hr83]; omega) (by omega)) (.inl rfl) rfl ?_
              refine AtL.nilCheck (.inl rfl) rfl rfl ?_
              refine AtL.fieldAddrB tf_fo54_0 (.inl rfl) rfl rfl rfl ?_
              refine AtL.store (H' := s71 :: s45 :: [(b, .cells #[.int .i64 m, .bool br, .slice A85 ((subl y.l off y.l.length) ++ r82).length C69, .int .i64 0, .int .i8 0, .int .i64 e] 56 (0, 0))] :: H) 2 0 tf_sz22 (.inl rfl) rfl rfl rfl rfl rfl rfl rfl rfl rfl ?_
              refine AtL.done ?_
              refine At.seq ?_
              refine At.region ?_
              refine AtL.move (.inl rfl) rfl rfl ?_
              refine AtL.assign (.inl rfl) rfl rfl ?_
              refine AtL.done ?_
              refine At.pick (H' := s71 :: [(b, .cells #[.int .i64 m, .bool br, .slice A85 ((subl y.l off y.l.length) ++ r82).length C69, .int .i64 0, .int .i8 0, .int .i64 e] 56 (0, 0))] :: H) [0, 2] 3 rfl rfl ?_
              have hsl : (subl y.l off y.l.length).length = y.l.length - off := subl_len (Nat.le_refl _)
              exact At.ret Tryd.func38 rfl rfl (⟨⟨A85, C69, (subl y.l off y.l.length) ++ r82, s71, o84⟩, 0, y.l.length - off, by omega, by omega, by dsimp only; rw [List.length_append, hr83, hsl]; omega, by dsimp only; rw [List.drop_zero, List.take_append_of_le_length (by omega), List.take_of_length_le (by omega), subl_from], congrArg int (rfl), rfl⟩)

theorem write_eq (z p : List UInt8) (k : Nat) (h : z.length = k + p.length) : z.take k ++ p.take (subl z k z.length).length ++ z.drop (k + min p.length (subl z k z.length).length) = z.take k ++ p := by
  have h1 : (subl z k z.length).length = p.length := by rw [subl_len (Nat.le_refl _)]; omega
  rw [h1, Nat.min_self, List.take_of_length_le (Nat.le_refl _), List.drop_eq_nil_of_le (by omega), List.append_nil]

set_option maxHeartbeats 400000 in
theorem bwrite_ok {w0 : World} {base : Nat} {H : List Seg} {b : Nat} {y : Sl tyB 5} {m e lr : Int} {br : Bool} {off : Nat} {A : Option Addr} {C : Nat} {l : List UInt8} (h : Rd tyB w0 base H A C l) (hl : y.l.length + l.length ≤ 500000000) (ho : off ≤ y.l.length) :
    SCalls Tryd.prog 32 [.pointer (some ⟨b, 2, none⟩), .slice A l.length C] w0 base (y.s :: [(b, .cells #[.int .i64 m, .bool br, .slice y.A y.l.length y.C, .int .i64 (off : Int), .int .i8 lr, .int .i64 e] 56 (0, 0))] :: H) (fun v H' => ∃ (z : Sl tyB 5) (o' : Nat), o' ≤ z.l.length ∧ z.l.drop o' = y.l.drop off ++ l ∧ z.l.length ≤ y.l.length + l.length ∧ v = .tuple #[int (l.length : Int), .nilIface] ∧ H' = z.s :: [(b, .cells #[.int .i64 m, .bool br, .slice z.A z.l.length z.C, .int .i64 (o' : Int), .int .i8 0, .int .i64 e] 56 (0, 0))] :: H) := by
  refine SCalls.of_walk (n := 32) Tryd.func32 rfl rfl rfl fun cs => ?_
  refine At.seq ?_
  refine At.region ?_
  refine AtL.assign (.inl rfl) rfl rfl ?_
  refine AtL.assign (.inl rfl) rfl rfl ?_
  refine AtL.done ?_
  refine At.seq ?_
  refine At.region ?_
  refine AtL.move (.inl rfl) rfl rfl ?_
  refine AtL.nilCheck (.inl rfl) rfl rfl ?_
  refine AtL.fieldAddrB tf_fo54_2 (.inl rfl) rfl rfl rfl ?_
  refine AtL.store (H' := y.s :: [(b, .cells #[.int .i64 m, .bool br, .slice y.A y.l.length y.C, .int .i64 (off : Int), .int .i8 0, .int .i64 e] 56 (0, 0))] :: H) 1 0 tf_sz52 (.inl rfl) rfl rfl rfl rfl rfl rfl rfl rfl rfl ?_
  refine AtL.done ?_
  refine At.seq ?_
  refine At.region ?_
  refine AtL.move (.inl rfl) rfl rfl ?_
  refine AtL.move (.inl rfl) rfl rfl ?_
  refine AtL.lenL Tryd.underlying22 (.inl rfl) rfl rfl ?_
  refine AtL.call tf_body37 (.inl rfl) rfl rfl (btry_ok (y := y) l.length (by first | omega | (simp only [List.length_append, List.length_cons, List.length_nil]; omega) | (simp; done) | (simp; omega)) (by omega)) ?_
  rintro _ _ ⟨⟨A1, C2, l3, s4, o5⟩, ok6, k9, h7, h8, rfl, rfl⟩
  have hok1 := h7
  have hok2 := h8
  dsimp only at hok1 hok2
  refine AtL.move (.inl rfl) rfl rfl ?_
  refine AtL.extract (.inl rfl) rfl rfl rfl ?_
  refine AtL.extract (.inl rfl) rfl rfl rfl ?_
  refine AtL.assign (.inl rfl) rfl rfl ?_
  refine AtL.assign (.inl rfl) rfl rfl ?_
  refine AtL.done ?_
  refine At.seq ?_
  refine At.seq ?_
  refine At.region ?_
  refine AtL.move (.inl rfl) rfl rfl ?_
  refine AtL.not (.inl rfl) rfl rfl ?_
  refine AtL.done ?_
  refine At.cond rfl ?_ ?_
  · intro hc1
    have hc1 : ok6 = false := bnot_true hc1
    obtain ⟨hzl, hzC⟩ := hok2 hc1
    subst hzl
    refine At.region ?_
    refine AtL.move (.inl rfl) rfl rfl ?_
    refine AtL.move (.inl rfl) rfl rfl ?_
    refine AtL.lenL Tryd.underlying22 (.inl rfl) rfl rfl ?_
    refine AtL.call tf_body38 (.inl rfl) rfl rfl (bgrow_ok (y := ⟨A1, C2, y.l, s4, o5⟩) (off := off) l.length (by first | omega | (dsimp only; omega)) (by first | omega | (dsimp only; omega))) ?_
    rintro _ _ ⟨⟨A10, C11, l12, s13, o14⟩, p15, m16, h17, h18, h19, h20, rfl, rfl⟩
    have hg1 := h17
    have hg2 := h18
    have hg3 := h19
    have hg4 := h20
    dsimp only at hg2 hg3 hg4
    refine AtL.assign (.inl rfl) rfl rfl ?_
    refine AtL.done ?_
    refine At.seq ?_
    refine At.region ?_
    refine AtL.move (.inl rfl) rfl rfl ?_
    refine AtL.nilCheck (.inl rfl) rfl rfl ?_
    refine AtL.fieldAddrB tf_fo54_0 (.inl rfl) rfl rfl rfl ?_
    refine AtL.load tf_flat22 (.inl rfl) rfl rfl (Cell.own 1 0 rfl rfl rfl) ?_
    refine AtL.move (.inl rfl) rfl rfl ?_
    have hleo23 := Own.le_cap o14
    obtain ⟨A21, eA21⟩ : ∃ A21 : Option Addr, A21 = (if C11 = m16 then A10 else Option.map (fun a => a.add (m16 * tyB.sz)) A10) := ⟨_, rfl⟩
    obtain ⟨C22, eC22⟩ : ∃ C22 : Nat, C22 = C11 - m16 := ⟨_, rfl⟩
    have o23 : Own tyB 5 A21 C22 (subl l12 m16 l12.length) s13 := by rw [eA21, eC22]; exact Own.cut o14 (by omega) (by omega) (by omega) (by omega)
    refine AtL.ofIs (Do.sliceX_ (T := tyB) (l := l12) m16 l12.length C11 (evBound_some rfl rfl) rfl rfl (by intro h; cases h) (by omega) (by omega) (Nat.le_refl _) Tryd.underlying22 tf_sz5 rfl eA21 (subl_len (l := l12) (i := m16) (j := l12.length) (by omega)) eC22) (.inl rfl) rfl ?_
    have hlo23 : (subl l12 m16 l12.length).length = l12.length - m16 := subl_len (by omega)
    refine AtL.move (.inl rfl) rfl rfl ?_
    refine AtL.of (Do.copyAt (j := m16) 0 Tryd.underlying22 tf_sz5 rfl o14 eA21 (by have := Own.le_cap o14; simp only [subl_len (Nat.le_refl _)]; omega) (by simp only [subl_len (Nat.le_refl _)]; omega) (Rd.skip 2 h) rfl rfl) (.inl rfl) rfl ?_
    rintro _ _ ⟨s24, o25, rfl, rfl⟩
    refine AtL.eqH (H' := s24 :: [(b, .cells #[.int .i64 m, .bool br, .slice A10 (l12.take m16 ++ l.take (subl l12 m16 l12.length).length ++ l12.drop (m16 + min l.length (subl l12 m16 l12.length).length)).length C11, .int .i64 (p15 : Int), .int .i8 0, .int .i64 e] 56 (0, 0))] :: H) (by first | (rw [show (l12.take m16 ++ l.take (subl l12 m16 l12.length).length ++ l12.drop (m16 + min l.length (subl l12 m16 l12.length).length)).length = l12.length from (by simp; omega)]; done) | (rw [show (l12.take m16 ++ l.take (subl l12 m16 l12.length).length ++ l12.drop (m16 + min l.length (subl l12 m16 l12.length).length)).length = l12.length from (by simp; omega)]; rfl)) ?_
    refine AtL.assign (.inl rfl) rfl rfl ?_
    refine AtL.assign (.inl rfl) rfl rfl ?_
    refine AtL.done ?_
    have hm : min l.length (subl l12 m16 l12.length).length = l.length := by rw [subl_len (Nat.le_refl _)]; omega
    have hL := write_eq l12 l m16 (by omega)
    have hgt : (l12.take m16).length = m16 := by rw [List.length_take]; omega
    exact At.ret Tryd.func32 rfl rfl (⟨⟨A10, C11, l12.take m16 ++ l.take (subl l12 m16 l12.length).length ++ l12.drop (m16 + min l.length (subl l12 m16 l12.length).length), s24, o25⟩, p15, by dsimp only; rw [hL, List.length_append, hgt]; omega, by dsimp only; rw [hL, List.drop_append_of_le_length (by omega), hg4], by dsimp only; rw [hL, List.length_append, hgt]; omega, by dsimp only [oneOf]; rw [hm], rfl⟩)
  · intro hc1
    have hc1 : ok6 = true := bnot_false hc1
    obtain ⟨hzk, hzt, hzn⟩ := hok1 hc1
    refine At.skip ?_
    refine At.seq ?_
    refine At.region ?_
    refine AtL.move (.inl rfl) rfl rfl ?_
    refine AtL.nilCheck (.inl rfl) rfl rfl ?_
    refine AtL.fieldAddrB tf_fo54_0 (.inl rfl) rfl rfl rfl ?_
    refine AtL.load tf_flat22 (.inl rfl) rfl rfl (Cell.own 1 0 rfl rfl rfl) ?_
    refine AtL.move (.inl rfl) rfl rfl ?_
    have hleo28 := Own.le_cap o5
    obtain ⟨A26, eA26⟩ : ∃ A26 : Option Addr, A26 = (if C2 = k9 then A1 else Option.map (fun a => a.add (k9 * tyB.sz)) A1) := ⟨_, rfl⟩
    obtain ⟨C27, eC27⟩ : ∃ C27 : Nat, C27 = C2 - k9 := ⟨_, rfl⟩
    have o28 : Own tyB 5 A26 C27 (subl l3 k9 l3.length) s4 := by rw [eA26, eC27]; exact Own.cut o5 (by omega) (by omega) (by omega) (by omega)
    refine AtL.ofIs (Do.sliceX_ (T := tyB) (l := l3) k9 l3.length C2 (evBound_some rfl rfl) rfl rfl (by intro h; cases h) (by omega) (by omega) (Nat.le_refl _) Tryd.underlying22 tf_sz5 rfl eA26 (subl_len (l := l3) (i := k9) (j := l3.length) (by omega)) eC27) (.inl rfl) rfl ?_
    have hlo28 : (subl l3 k9 l3.length).length = l3.length - k9 := subl_len (by omega)
    refine AtL.move (.inl rfl) rfl rfl ?_
    refine AtL.of (Do.copyAt (j := k9) 0 Tryd.underlying22 tf_sz5 rfl o5 eA26 (by have := Own.le_cap o5; simp only [subl_len (Nat.le_refl _)]; omega) (by simp only [subl_len (Nat.le_refl _)]; omega) (Rd.skip 2 h) rfl rfl) (.inl rfl) rfl ?_
    rintro _ _ ⟨s29, o30, rfl, rfl⟩
    refine AtL.eqH (H' := s29 :: [(b, .cells #[.int .i64 m, .bool br, .slice A1 (l3.take k9 ++ l.take (subl l3 k9 l3.length).length ++ l3.drop (k9 + min l.length (subl l3 k9 l3.length).length)).length C2, .int .i64 (off : Int), .int .i8 0, .int .i64 e] 56 (0, 0))] :: H) (by first | (rw [show (l3.take k9 ++ l.take (subl l3 k9 l3.length).length ++ l3.drop (k9 + min l.length (subl l3 k9 l3.length).length)).length = l3.length from (by simp; omega)]; done) | (rw [show (l3.take k9 ++ l.take (subl l3 k9 l3.length).length ++ l3.drop (k9 + min l.length (subl l3 k9 l3.length).length)).length = l3.length from (by simp; omega)]; rfl)) ?_
    refine AtL.assign (.inl rfl) rfl rfl ?_
    refine AtL.assign (.inl rfl) rfl rfl ?_
    refine AtL.done ?_
    have hm : min l.length (subl l3 k9 l3.length).length = l.length := by rw [subl_len (Nat.le_refl _)]; omega
    have hL := write_eq l3 l k9 (by omega)
    exact At.ret Tryd.func32 rfl rfl (⟨⟨A1, C2, l3.take k9 ++ l.take (subl l3 k9 l3.length).length ++ l3.drop (k9 + min l.length (subl l3 k9 l3.length).length), s29, o30⟩, off, by dsimp only; rw [hL, hzk, hzt, List.length_append]; omega, by dsimp only; rw [hL, hzk, hzt, List.drop_append_of_le_length ho], by dsimp only; rw [hL, hzk, hzt, List.length_append]; omega, by dsimp only [oneOf]; rw [hm], rfl⟩)

set_option maxHeartbeats 400000 in
theorem bnext_ok {w0 : World} {base : Nat} {H : List Seg} {b : Nat} {y : Sl tyB 5} {m e lr : Int} {br : Bool} {off : Nat} (n : Nat) (hl : y.l.length ≤ 500000000) (ho : off + n ≤ y.l.length) :
    SCalls Tryd.prog 40 [.pointer (some ⟨b, 2, none⟩), .int .i64 (n : Int)] w0 base (y.s :: [(b, .cells #[.int .i64 m, .bool br, .slice y.A y.l.length y.C, .int .i64 (off : Int), .int .i8 lr, .int .i64 e] 56 (0, 0))] :: H) (fun v H' => ∃ A' C' lr', Own tyB 5 A' C' (subl y.l off (off + n)) y.s ∧ v = .slice A' (subl y.l off (off + n)).length C' ∧ H' = y.s :: [(b, .cells #[.int .i64 m, .bool br, .slice y.A y.l.length y.C, .int .i64 ((off : Int) + (n : Int)), .int .i8 (lr' : Int), .int .i64 e] 56 (0, 0))] :: H) := by
  refine SCalls.of_walk (n := 45) Tryd.func40 rfl rfl rfl fun cs => ?_
  refine At.seq ?_
  refine At.region ?_
  refine AtL.assign (.inl rfl) rfl rfl ?_
  refine AtL.done ?_
  refine At.seq ?_
  refine At.region ?_
  refine AtL.move (.inl rfl) rfl rfl ?_
  refine AtL.nilCheck (.inl rfl) rfl rfl ?_
  refine AtL.fieldAddrB tf_fo54_2 (.inl rfl) rfl rfl rfl ?_
  refine AtL.store (H' := y.s :: [(b, .cells #[.int .i64 m, .bool br, .slice y.A y.l.length y.C, .int .i64 (off : Int), .int .i8 0, .int .i64 e] 56 (0, 0))] :: H) 1 0 tf_sz52 (.inl rfl) rfl rfl rfl rfl rfl rfl rfl rfl rfl ?_
  refine AtL.done ?_
  refine At.seq ?_
  refine At.region ?_
  refine AtL.move (.inl rfl) rfl rfl ?_
  refine AtL.call tf_body35 (.inl rfl) rfl rfl (blen_ok (y := y) (off := off) (by omega) (by omega)) ?_
  rintro _ _ ⟨rfl, rfl⟩
  refine AtL.assign (.inl rfl) rfl rfl ?_
  refine AtL.done ?_
  refine At.seq ?_
  refine At.seq ?_
  refine At.region ?_
  refine AtL.move (.inl rfl) rfl rfl ?_
  refine AtL.move (.inl rfl) rfl rfl ?_
  refine AtL.gtr (.inl rfl) rfl rfl rfl ?_
  refine AtL.done ?_
  refine At.condIs false rfl (decide_eq_false (by omega)) ?_
  refine At.skip ?_
  refine At.seq ?_
  have hleo3 := Own.le_cap y.own
  obtain ⟨A1, eA1⟩ : ∃ A1 : Option Addr, A1 = (if y.C = off then y.A else Option.map (fun a => a.add (off * tyB.sz)) y.A) := ⟨_, rfl⟩
  obtain ⟨C2, eC2⟩ : ∃ C2 : Nat, C2 = y.C - off := ⟨_, rfl⟩
  have o3 : Own tyB 5 A1 C2 (subl y.l off (off + n)) y.s := by rw [eA1, eC2]; exact Own.cut y.own (by omega) (by omega) (by omega) (by omega)
  refine At.draw (es := []) (pv := [(0, .pointer (some ⟨b, 2, none⟩)), (1, .pointer (some ⟨b, 2, none⟩)), (2, .pointer (some ⟨b, 2, none⟩)), (3, .slice y.A y.l.length y.C), (4, .pointer (some ⟨b, 2, none⟩)), (5, .pointer (some ⟨b, 2, none⟩)), (6, .pointer (some ⟨b, 3, none⟩)), (7, .int .i64 (off : Int)), (8, .pointer (some ⟨b, 2, none⟩)), (9, .pointer (some ⟨b, 2, none⟩)), (10, .pointer (some ⟨b, 3, none⟩)), (11, .int .i64 (off : Int)), (12, .int .i64 (n : Int)), (13, .int .i64 ((off : Int) + (n : Int))), (14, .slice A1 (subl y.l off (off + n)).length C2), (15, .slice A1 (subl y.l off (off + n)).length C2)]) tf_mixed (by kernel_rfl) (by kernel_rfl) (by kernel_rfl) ?_
  refine ⟨⟨.inr ⟨_, rfl, rfl, .inl ⟨rfl, Do.move rfl⟩⟩, .inr ⟨_, rfl, rfl, .inl ⟨rfl, Do.nilCheck rfl⟩⟩, .inr ⟨_, rfl, rfl, .inl ⟨rfl, Do.fieldAddrB tf_fo54_0 rfl rfl⟩⟩, .inr ⟨_, rfl, rfl, .inl ⟨rfl, Do.load tf_flat22 rfl (Cell.own 1 0 rfl rfl rfl)⟩⟩, .inr ⟨_, rfl, rfl, .inl ⟨rfl, Do.move rfl⟩⟩, .inr ⟨_, rfl, rfl, .inl ⟨rfl, Do.nilCheck rfl⟩⟩, .inr ⟨_, rfl, rfl, .inl ⟨rfl, Do.fieldAddrB tf_fo54_1 rfl rfl⟩⟩, .inr ⟨_, rfl, rfl, .inl ⟨rfl, Do.load tf_flat3 rfl (Cell.own 1 0 rfl rfl rfl)⟩⟩, .inr ⟨_, rfl, rfl, .inl ⟨rfl, Do.move rfl⟩⟩, .inr ⟨_, rfl, rfl, .inl ⟨rfl, Do.nilCheck rfl⟩⟩, .inr ⟨_, rfl, rfl, .inl ⟨rfl, Do.fieldAddrB tf_fo54_1 rfl rfl⟩⟩, .inr ⟨_, rfl, rfl, .inl ⟨rfl, Do.load tf_flat3 rfl (Cell.own 1 0 rfl rfl rfl)⟩⟩, .inr ⟨_, rfl, rfl, .inl ⟨rfl, Do.move rfl⟩⟩, .inr ⟨_, rfl, rfl, .inl ⟨rfl, Do.add (z := (off : Int) + (n : Int)) rfl rfl (w64 (by omega) (by omega))⟩⟩, .inr ⟨_, rfl, rfl, .inl ⟨rfl, Do.sliceX_ (T := tyB) (l := y.l) off (off + n) y.C (evBound_some rfl rfl) (evBound_some rfl rfl) rfl (by intro h; cases h) (by omega) (by omega) (Nat.le_refl _) Tryd.underlying22 tf_sz5 rfl eA1 (subl_len (l := y.l) (i := off) (j := (off + n)) (by omega)) eC2⟩⟩, .inr ⟨_, rfl, rfl, .inl ⟨rfl, Do.assign rfl⟩⟩, trivial⟩, by kernel_rfl, ?_⟩
  refine At.mono (E' := [(0, .pointer (some ⟨b, 2, none⟩)), (1, .int .i64 (n : Int)), (6, .slice A1 (subl y.l off (off + n)).length C2)]) ⟨rfl, rfl, rfl, trivial⟩ ?_
  refine At.seq ?_
  refine At.region ?_
  refine AtL.move (.inl rfl) rfl rfl ?_
  refine AtL.nilCheck (.inl rfl) rfl rfl ?_
  refine AtL.fieldAddrB tf_fo54_1 (.inl rfl) rfl rfl rfl ?_
  refine AtL.load tf_flat3 (.inl rfl) rfl rfl (Cell.own 1 0 rfl rfl rfl) ?_
  refine AtL.move (.inl rfl) rfl rfl ?_
  refine AtL.add (z := (off : Int) + (n : Int)) (.inl rfl) rfl rfl rfl (w64 (by omega) (by omega)) ?_
  refine AtL.nilCheck (.inl rfl) rfl rfl ?_
  refine AtL.fieldAddrB tf_fo54_1 (.inl rfl) rfl rfl rfl ?_
  refine AtL.store (H' := y.s :: [(b, .cells #[.int .i64 m, .bool br, .slice y.A y.l.length y.C, .int .i64 ((off : Int) + (n : Int)), .int .i8 0, .int .i64 e] 56 (0, 0))] :: H) 1 0 tf_sz3 (.inl rfl) rfl rfl rfl rfl rfl rfl rfl rfl rfl ?_
  refine AtL.done ?_
  refine At.seq ?_
  refine At.seq ?_
  refine At.region ?_
  refine AtL.move (.inl rfl) rfl rfl ?_
  refine AtL.gtr (.inl rfl) rfl rfl rfl ?_
  refine AtL.done ?_
  refine At.cond rfl ?_ ?_
  · intro hc2
    have hc2 : 0 < (n : Int) := of_decide_eq_true hc2
    refine At.region ?_
    refine AtL.move (.inl rfl) rfl rfl ?_
    refine AtL.nilCheck (.inl rfl) rfl rfl ?_
    refine AtL.fieldAddrB tf_fo54_2 (.inl rfl) rfl rfl rfl ?_
    refine AtL.store (H' := y.s :: [(b, .cells #[.int .i64 m, .bool br, .slice y.A y.l.length y.C, .int .i64 ((off : Int) + (n : Int)), .int .i8 (-1), .int .i64 e] 56 (0, 0))] :: H) 1 0 tf_sz52 (.inl rfl) rfl rfl rfl rfl rfl rfl rfl rfl rfl ?_
    refine AtL.done ?_
    refine At.seq ?_
    refine At.region ?_
    refine AtL.move (.inl rfl) rfl rfl ?_
    refine AtL.assign (.inl rfl) rfl rfl ?_
    refine AtL.done ?_
    exact At.ret Tryd.func40 rfl rfl (⟨_, _, _, o3, rfl, rfl⟩)
  · intro hc2
    have hc2 : ¬ (0 < (n : Int)) := of_decide_eq_false hc2
    refine At.skip ?_
    refine At.seq ?_
    refine At.region ?_
    refine AtL.move (.inl rfl) rfl rfl ?_
    refine AtL.assign (.inl rfl) rfl rfl ?_
    refine AtL.done ?_
    exact At.ret Tryd.func40 rfl rfl (⟨_, _, _, o3, rfl, rfl⟩)

set_option maxHeartbeats 400000 in
theorem bclone_ok {w0 : World} {base : Nat} {H : List Seg} {A : Option Addr} {C : Nat} {l : List UInt8} (h : Rd tyB w0 base H A C l) (hl : l.length ≤ 140737488355000) :
    SCalls Tryd.prog 41 [.slice A l.length C] w0 base (H) (fun v H' => ∃ x : Sl tyB 5, x.l = l ∧ v = .slice x.A x.l.length x.C ∧ H' = x.s :: H) := by
  refine SCalls.of_walk (n := 8) Tryd.func41 rfl rfl rfl fun cs => ?_
  refine At.seq ?_
  refine At.region ?_
  refine AtL.assign (.inl rfl) rfl rfl ?_
  refine AtL.done ?_
  refine At.seq ?_
  refine At.seq ?_
  refine At.region ?_
  refine AtL.move (.inl rfl) rfl rfl ?_
  refine AtL.eqSliceNil Tryd.underlying22 (.inl rfl) rfl rfl rfl ?_
  refine AtL.done ?_
  refine At.cond rfl ?_ ?_
  · intro hc1
    have hc1 : A.isNone = true := hc1
    have hA : A = none := by simpa using hc1
    have hl0 : l = [] := List.eq_nil_of_length_eq_zero (by have := h.le; have := h.nil hA; omega)
    refine At.seq ?_
    refine At.region ?_
    refine AtL.assign (.inl rfl) rfl rfl ?_
    refine AtL.done ?_
    refine At.nil ?_
    exact At.ret Tryd.func41 rfl rfl (⟨Sl.nil, hl0.symm, rfl, rfl⟩)
  · intro hc1
    have hc1 : A.isNone = false := hc1
    refine At.skip ?_
    refine At.seq ?_
    refine At.region ?_
    refine AtL.buildSlice (cs := []) Tryd.underlying22 tf_zero5 tf_sz5 rfl rfl (.inl rfl) rfl rfl rfl ?_
    intro b1
    refine AtL.own1 tyB (l := ([] : List UInt8)) rfl rfl (by first | decide | simp) ?_
    intro s2 o3
    refine AtL.move (.inl rfl) rfl rfl ?_
    refine AtL.append (l := []) (news := l) 0 tf_el22 rfl o3 (Rd.skip 1 h) (by first | omega | (simp only [List.length_append, List.length_cons, List.length_nil]; omega) | (simp; done) | (simp; omega)) (.inl rfl) rfl rfl rfl ?_
    intro A4 C5 s6 o7
    refine AtL.assign (.inl rfl) rfl rfl ?_
    refine AtL.done ?_
    exact At.ret Tryd.func41 rfl rfl (⟨⟨A4, C5, [] ++ l, s6, o7⟩, rfl, rfl, rfl⟩)

end Go.Proofs.YtllfgcekebafhaaDoor
