/- Bytes as numbers, not told. -/
import Derived.Test.YtlkdmbpbjhjkfaaDoorY1
namespace Go.Proofs.YtlkdmbpbjhjkfaaDoor
set_option linter.unusedVariables false
set_option linter.unusedSimpArgs false
set_option maxRecDepth 100000

set_option maxHeartbeats 400000 in
theorem at1_ret {w0 : World} {base : Nat} {H : List Seg} {b : Nat} {x : Value} :
    DCalls Tryd.prog 69 [.pointer (some ⟨b, 0, none⟩)] w0 base ([(b, .cells #[x] 70 (0, 0))] :: H) .returning (fun m' H' => m' = .returning ∧ H' = [(b, .cells #[x] 70 (0, 0))] :: H) := by
  refine DCalls.of_walk (n := 14) Tryd.func69 rfl rfl rfl fun fr cs => ?_
  refine At.seq ?_
  refine At.region ?_
  refine AtL.recoverNone rfl ?_
  refine AtL.assign (.inl rfl) rfl rfl ?_
  refine AtL.done ?_
  refine At.seq ?_
  refine At.seq ?_
  refine At.region ?_
  refine AtL.move (.inl rfl) rfl rfl ?_
  refine AtL.typeAssert (u := .tuple #[.nilIface, .bool false]) (.inl rfl) rfl rfl (fun w => by kernel_rfl) ?_
  refine AtL.move (.inl rfl) rfl rfl ?_
  refine AtL.extract (.inl rfl) rfl rfl rfl ?_
  refine AtL.extract (.inl rfl) rfl rfl rfl ?_
  refine AtL.assign (.inl rfl) rfl rfl ?_
  refine AtL.assign (.inl rfl) rfl rfl ?_
  refine AtL.done ?_
  refine At.seq ?_
  refine At.region ?_
  refine AtL.move (.inl rfl) rfl rfl ?_
  refine AtL.done ?_
  refine At.condF rfl ?_
  refine At.skip ?_
  refine At.seq ?_
  refine At.region ?_
  refine AtL.move (.inl rfl) rfl rfl ?_
  refine AtL.neNilIface Tryd.underlying20 (.inl rfl) rfl rfl ?_
  refine AtL.done ?_
  refine At.condF rfl ?_
  refine At.skip ?_
  refine At.endU rfl ?_
  exact Un.leftD (vs := []) Tryd.func69 rfl trivial (⟨rfl, rfl⟩)

set_option maxHeartbeats 400000 in
theorem at1_bad {w0 : World} {base : Nat} {H : List Seg} {b : Nat} {x : Value} (i m : Int) (s : Bool) :
    DCalls Tryd.prog 69 [.pointer (some ⟨b, 0, none⟩)] w0 base ([(b, .cells #[x] 70 (0, 0))] :: H) (.panicking [{ v := .iface Tryd.prog.rt.boundsError (.agg #[.int .i64 i, .int .i64 m, .bool s, .int .u8 0]), recovered := false }]) (fun m' H' => m' = .returning ∧ H' = [(b, .cells #[int 4] 70 (0, 0))] :: H) := by
  refine DCalls.of_walk (n := 14) Tryd.func69 rfl rfl rfl fun fr cs => ?_
  refine At.seq ?_
  refine At.region ?_
  refine AtL.recoverSome rfl ?_
  refine AtL.assign (.inl rfl) rfl rfl ?_
  refine AtL.done ?_
  refine At.seq ?_
  refine At.seq ?_
  refine At.region ?_
  refine AtL.move (.inl rfl) rfl rfl ?_
  refine AtL.typeAssert (u := .tuple #[.iface Tryd.prog.rt.boundsError (.agg #[.int .i64 i, .int .i64 m, .bool s, .int .u8 0]), .bool true]) (.inl rfl) rfl rfl (fun w => by kernel_rfl) ?_
  refine AtL.move (.inl rfl) rfl rfl ?_
  refine AtL.extract (.inl rfl) rfl rfl rfl ?_
  refine AtL.extract (.inl rfl) rfl rfl rfl ?_
  refine AtL.assign (.inl rfl) rfl rfl ?_
  refine AtL.assign (.inl rfl) rfl rfl ?_
  refine AtL.done ?_
  refine At.seq ?_
  refine At.region ?_
  refine AtL.move (.inl rfl) rfl rfl ?_
  refine AtL.done ?_
  refine At.condT rfl ?_
  refine At.seq ?_
  refine At.region ?_
  refine AtL.store (H' := [(b, .cells #[.int .i64 4] 70 (0, 0))] :: H) 0 0 tf_sz70 (.inl rfl) rfl rfl rfl rfl rfl rfl rfl rfl rfl ?_
  refine AtL.done ?_
  refine At.retU rfl ?_
  exact Un.leftD (vs := []) Tryd.func69 rfl trivial (⟨rfl, rfl⟩)

set_option maxHeartbeats 400000 in
theorem at_any {w0 : World} {base : Nat} {H : List Seg} {A : Option Addr} {C : Nat} {l : List UInt8} (h : Rd tyB w0 base H A C l) (i : Int) :
    SCalls Tryd.prog 63 [.slice A l.length C, .int .i64 i] w0 base (H) (fun v H' => ∃ (c : UInt8) (e : Int), v = .tuple #[.int .u8 c.toNat, int e] ∧ H' = H) := by
  refine SCalls.of_walk (n := 11) Tryd.func63 rfl rfl rfl fun cs => ?_
  refine At.seq ?_
  refine At.region ?_
  refine AtL.assign (.inl rfl) rfl rfl ?_
  refine AtL.alloc tf_zero70 (cs := #[.int .i64 0]) rfl (.inl rfl) rfl ?_
  intro b1
  refine AtL.done ?_
  refine At.seq ?_
  refine At.region ?_
  refine AtL.makeFunc (.inl rfl) rfl rfl rfl ?_
  refine AtL.defer rfl (.inl rfl) rfl rfl rfl ?_
  refine AtL.done ?_
  refine At.seq ?_
  refine At.region ?_
  refine AtL.move (.inl rfl) rfl rfl ?_
  refine AtL.move (.inl rfl) rfl rfl ?_
  rcases Classical.em (0 ≤ i ∧ i < (l.length : Int)) with hin | hin
  · skip
    obtain ⟨j, hj⟩ : ∃ j : Nat, i = (j : Int) := ⟨(i).toNat, by omega⟩
    refine AtL.indexL j (Rd.skip 1 h) Tryd.underlying22 tf_sz5 (.inl rfl) rfl rfl rfl hj (by omega) ?_
    refine AtL.load (v := .int .u8 ((l.getD j 0).toNat : Int)) tf_flat5 (.inl rfl) rfl rfl (Rd.cell0 (Rd.skip 1 h) (getD_some 0 (by omega)) rfl) ?_
    refine AtL.assign (.inl rfl) rfl rfl ?_
    refine AtL.store (H' := [(b1, .cells #[.int .i64 0] 70 (0, 0))] :: H) 0 0 tf_sz70 (.inl rfl) rfl rfl rfl rfl rfl rfl rfl rfl rfl ?_
    refine AtL.done ?_
    refine At.retU rfl ?_
    refine Un.defer tf_body69 rfl rfl at1_ret ?_
    rintro _ _ ⟨rfl, rfl⟩
    exact Un.leftP (vs := [.int .u8 ((l.getD j 0).toNat : Int), .int .i64 0]) (H2 := H) [] 1 rfl rfl Tryd.func63 rfl ⟨rfl, ⟨_, rfl, LoadsTo.flat tf_flat70 (Cell.own 0 0 rfl rfl rfl)⟩, trivial⟩ (⟨_, _, rfl, rfl⟩)
  · skip
    refine AtL.indexPanics Tryd.underlying22 (.inl rfl) rfl rfl (by omega) ?_
    intro m s
    refine Un.defer tf_body69 rfl rfl (at1_bad _ _ _) ?_
    rintro _ _ ⟨rfl, rfl⟩
    exact Un.leftP (vs := [.int .u8 0, .int .i64 4]) (H2 := H) [] 1 rfl rfl Tryd.func63 rfl ⟨rfl, ⟨_, rfl, LoadsTo.flat tf_flat70 (Cell.own 0 0 rfl rfl rfl)⟩, trivial⟩ (⟨0, _, rfl, rfl⟩)

set_option maxHeartbeats 400000 in
theorem get4_any {w0 : World} {base : Nat} {H : List Seg} {A : Option Addr} {C : Nat} {l : List UInt8} (h : Rd tyB w0 base H A C l) (i : Int) (hi : -1000 ≤ i) (hi2 : i ≤ 4611686018427387904) (hl : l.length ≤ 4611686018427387904) :
    SCalls Tryd.prog 51 [.slice A l.length C, .int .i64 i, .int .i64 4] w0 base (H) (fun v H' => ∃ a b c d : Int, v = .tuple #[int a, int b, .agg #[int c, int d]] ∧ H' = H) := by
  refine SCalls.of_walk (n := 51) Tryd.func51 rfl rfl rfl fun cs => ?_
  refine At.seq ?_
  refine At.region ?_
  refine AtL.assign (.inl rfl) rfl rfl ?_
  refine AtL.assign (.inl rfl) rfl rfl ?_
  refine AtL.alloc tf_zero72 (cs := #[.int .i64 0, .int .i64 0]) rfl (.inl rfl) rfl ?_
  intro b1
  refine AtL.done ?_
  refine At.seq ?_
  refine At.seq ?_
  refine At.region ?_
  refine AtL.move (.inl rfl) rfl rfl ?_
  refine AtL.lss (.inl rfl) rfl rfl rfl ?_
  refine AtL.move (.inl rfl) rfl rfl ?_
  refine AtL.join 5 (E' := [(20, .bool (decide (((i : Int) < 0) ∨ ((l.length : Int) < i)))), (0, .slice A l.length C), (1, .int .i64 i), (2, .int .i64 4), (8, .pointer (some ⟨b1, 0, none⟩))]) (H' := [(b1, .cells #[.int .i64 0, .int .i64 0] 72 (0, 0))] :: H) (fun J => ?_) ?_
  · refine AtL.split (t := 15) rfl ?_ ?_
    · intro hs15
      have hs15 : (i : Int) < 0 := of_decide_eq_true hs15
      refine AtL.skipped rfl rfl rfl rfl rfl rfl ?_
      refine AtL.skipped rfl rfl rfl rfl rfl rfl ?_
      refine AtL.skipped rfl rfl rfl rfl rfl rfl ?_
      refine AtL.skipped rfl rfl rfl rfl rfl rfl ?_
      refine AtL.pickT (.inl rfl) rfl rfl rfl ?_
      exact J _ (by exact ⟨(boolIs (by clear J; first | (simp [hs15]; done) | (simp_all; done) | grind)), rfl, rfl, rfl, rfl, trivial⟩)
    · intro hs15
      have hs15 : ¬ ((i : Int) < 0) := of_decide_eq_false hs15
      refine AtL.move (.inr ⟨_, _, _, rfl, rfl, rfl, rfl⟩) rfl rfl ?_
      refine AtL.move (.inr ⟨_, _, _, rfl, rfl, rfl, rfl⟩) rfl rfl ?_
      refine AtL.lenL Tryd.underlying22 (.inr ⟨_, _, _, rfl, rfl, rfl, rfl⟩) rfl rfl ?_
      refine AtL.gtr (.inr ⟨_, _, _, rfl, rfl, rfl, rfl⟩) rfl rfl rfl ?_
      refine AtL.pickF (.inl rfl) rfl rfl rfl ?_
      exact J _ (by exact ⟨(boolIs (by clear J; first | (simp [hs15]; done) | (simp_all; done) | grind)), rfl, rfl, rfl, rfl, trivial⟩)
  · skip
    refine AtL.done ?_
    refine At.cond rfl ?_ ?_
    · intro hc1
      have hc1 : ((i : Int) < 0) ∨ ((l.length : Int) < i) := of_decide_eq_true hc1
      refine At.seq ?_
      refine At.region ?_
      refine AtL.build (cs := [.int .i64 5, .int .i64 0]) tf_lay72 (.inl rfl) rfl rfl rfl ?_
      refine AtL.assign (.inl rfl) rfl rfl ?_
      refine AtL.assign (.inl rfl) rfl rfl ?_
      refine AtL.store (H' := [(b1, .cells #[.int .i64 5, .int .i64 0] 72 (0, 0))] :: H) 0 0 tf_sz72 (.inl rfl) rfl rfl rfl rfl rfl rfl rfl rfl rfl ?_
      refine AtL.done ?_
      exact At.retMP (vs := [.int .i64 0, .int .i64 0, .agg #[.int .i64 5, .int .i64 0]]) (H2 := H) [] 1 rfl rfl Tryd.func51 rfl ⟨rfl, rfl, ⟨_, rfl, LoadsTo.agg (cs := [.int .i64 5, .int .i64 0]) tf_agg72 rfl (cellsOwn 0 0 0 rfl rfl rfl)⟩, trivial⟩ (⟨_, _, _, _, rfl, rfl⟩)
    · intro hc1
      have hc1 : ¬ (((i : Int) < 0) ∨ ((l.length : Int) < i)) := of_decide_eq_false hc1
      refine At.skip ?_
      refine At.seq ?_
      refine At.region ?_
      refine AtL.assign (.inl rfl) rfl rfl ?_
      refine AtL.done ?_
      refine At.seq ?_
      refine At.seq ?_
      refine At.region ?_
      refine AtL.move (.inl rfl) rfl rfl ?_
      refine AtL.move (.inl rfl) rfl rfl ?_
      refine AtL.done ?_
      refine At.block ?_
      refine At.unroll ?_
      refine At.seq ?_
      refine At.region ?_
      refine AtL.lss (.inl rfl) rfl rfl rfl ?_
      refine AtL.done ?_
      refine At.seq ?_
      refine At.condT rfl ?_
      refine At.skip ?_
      refine At.seq ?_
      refine At.block ?_
      refine At.seq ?_
      refine At.region ?_
      refine AtL.move (.inl rfl) rfl rfl ?_
      refine AtL.assign (.inl rfl) rfl rfl ?_
      refine AtL.done ?_
      refine At.seq ?_
      refine At.region ?_
      refine AtL.move (.inl rfl) rfl rfl ?_
      refine AtL.move (.inl rfl) rfl rfl ?_
      refine AtL.move (.inl rfl) rfl rfl ?_
      refine AtL.add (z := i + 0) (.inl rfl) rfl rfl rfl (w64 (by omega) (by omega)) ?_
      refine AtL.call tf_body63 (.inl rfl) rfl rfl (at_any (l := l) (Rd.skip 1 h) (i + 0)) ?_
      rintro _ _ ⟨c2, e3, rfl, rfl⟩
      refine AtL.move (.inl rfl) rfl rfl ?_
      refine AtL.extract (.inl rfl) rfl rfl rfl ?_
      refine AtL.extract (.inl rfl) rfl rfl rfl ?_
      refine AtL.assign (.inl rfl) rfl rfl ?_
      refine AtL.assign (.inl rfl) rfl rfl ?_
      refine AtL.done ?_
      refine At.seq ?_
      refine At.seq ?_
      refine At.region ?_
      refine AtL.move (.inl rfl) rfl rfl ?_
      refine AtL.nei (.inl rfl) rfl rfl rfl ?_
      refine AtL.done ?_
      refine At.cond rfl ?_ ?_
      · intro hc3
        have hc3 : ¬ ((e3 : Int) = 0) := of_decide_eq_false (bnot_true hc3)
        refine At.seq ?_
        refine At.region ?_
        refine AtL.move (.inl rfl) rfl rfl ?_
        refine AtL.move (.inl rfl) rfl rfl ?_
        refine AtL.lenL Tryd.underlying22 (.inl rfl) rfl rfl ?_
        refine AtL.build (cs := [.int .i64 e3, .int .i64 (l.length : Int)]) tf_lay72 (.inl rfl) rfl rfl rfl ?_
        refine AtL.assign (.inl rfl) rfl rfl ?_
        refine AtL.assign (.inl rfl) rfl rfl ?_
        refine AtL.store (H' := [(b1, .cells #[.int .i64 e3, .int .i64 (l.length : Int)] 72 (0, 0))] :: H) 0 0 tf_sz72 (.inl rfl) rfl rfl rfl rfl rfl rfl rfl rfl rfl ?_
        refine AtL.done ?_
        exact At.retMP (vs := [.int .i64 0, .int .i64 0, .agg #[.int .i64 e3, .int .i64 (l.length : Int)]]) (H2 := H) [] 1 rfl rfl Tryd.func51 rfl ⟨rfl, rfl, ⟨_, rfl, LoadsTo.agg (cs := [.int .i64 e3, .int .i64 (l.length : Int)]) tf_agg72 rfl (cellsOwn 0 0 0 rfl rfl rfl)⟩, trivial⟩ (⟨_, _, _, _, rfl, rfl⟩)
      · intro hc3
        have hc3 : (e3 : Int) = 0 := of_decide_eq_true (bnot_false hc3)
        refine At.skip ?_
        refine At.region ?_
        refine AtL.move (.inl rfl) rfl rfl ?_
        obtain ⟨z4, hz4⟩ : ∃ z : Int, IntKind.i64.wrap (0 * 2 ^ (min ((8 : Int).toNat) (IntKind.i64).bits)) = z := ⟨_, rfl⟩
        refine AtL.shl (z := z4) (.inl rfl) rfl rfl rfl (by omega) hz4 ?_
        refine AtL.move (.inl rfl) rfl rfl ?_
        have hB5 := u8_le (c2)
        refine AtL.convInt (z := (c2.toNat : Int)) Tryd.underlying5 Tryd.underlying3 (.inl rfl) rfl rfl (u8_i64 _) ?_
        obtain ⟨z6, hz6⟩ : ∃ z : Int, IntKind.i64.wrap ((BitVec.ofInt (IntKind.i64).bits z4 ||| BitVec.ofInt (IntKind.i64).bits (c2.toNat : Int)).toNat : Int) = z := ⟨_, rfl⟩
        refine AtL.bor (z := z6) (.inl rfl) rfl rfl rfl hz6 ?_
        refine AtL.assign (.inl rfl) rfl rfl ?_
        refine AtL.done ?_
        refine At.inBlock ?_
        refine At.region ?_
        refine AtL.add (z := 1) (.inl rfl) rfl rfl rfl (by decide) ?_
        refine AtL.move (.inl rfl) rfl rfl ?_
        refine AtL.done ?_
        refine At.again ?_
        refine At.seq ?_
        refine At.region ?_
        refine AtL.lss (.inl rfl) rfl rfl rfl ?_
        refine AtL.done ?_
        refine At.seq ?_
        refine At.condT rfl ?_
        refine At.skip ?_
        refine At.seq ?_
        refine At.block ?_
        refine At.seq ?_
        refine At.region ?_
        refine AtL.move (.inl rfl) rfl rfl ?_
        refine AtL.assign (.inl rfl) rfl rfl ?_
        refine AtL.done ?_
        refine At.seq ?_
        refine At.region ?_
        refine AtL.move (.inl rfl) rfl rfl ?_
        refine AtL.move (.inl rfl) rfl rfl ?_
        refine AtL.move (.inl rfl) rfl rfl ?_
        refine AtL.add (z := i + 1) (.inl rfl) rfl rfl rfl (w64 (by omega) (by omega)) ?_
        refine AtL.call tf_body63 (.inl rfl) rfl rfl (at_any (l := l) (Rd.skip 1 h) (i + 1)) ?_
        rintro _ _ ⟨c7, e8, rfl, rfl⟩
        refine AtL.move (.inl rfl) rfl rfl ?_
        refine AtL.extract (.inl rfl) rfl rfl rfl ?_
        refine AtL.extract (.inl rfl) rfl rfl rfl ?_
        refine AtL.assign (.inl rfl) rfl rfl ?_
        refine AtL.assign (.inl rfl) rfl rfl ?_
        refine AtL.done ?_
        refine At.seq ?_
        refine At.seq ?_
        refine At.region ?_
        refine AtL.move (.inl rfl) rfl rfl ?_
        refine AtL.nei (.inl rfl) rfl rfl rfl ?_
        refine AtL.done ?_
        refine At.cond rfl ?_ ?_
        · intro hc3
          have hc3 : ¬ ((e8 : Int) = 0) := of_decide_eq_false (bnot_true hc3)
          refine At.seq ?_
          refine At.region ?_
          refine AtL.move (.inl rfl) rfl rfl ?_
          refine AtL.move (.inl rfl) rfl rfl ?_
          refine AtL.lenL Tryd.underlying22 (.inl rfl) rfl rfl ?_
          refine AtL.build (cs := [.int .i64 e8, .int .i64 (l.length : Int)]) tf_lay72 (.inl rfl) rfl rfl rfl ?_
          refine AtL.assign (.inl rfl) rfl rfl ?_
          refine AtL.assign (.inl rfl) rfl rfl ?_
          refine AtL.store (H' := [(b1, .cells #[.int .i64 e8, .int .i64 (l.length : Int)] 72 (0, 0))] :: H) 0 0 tf_sz72 (.inl rfl) rfl rfl rfl rfl rfl rfl rfl rfl rfl ?_
          refine AtL.done ?_
          exact At.retMP (vs := [.int .i64 0, .int .i64 0, .agg #[.int .i64 e8, .int .i64 (l.length : Int)]]) (H2 := H) [] 1 rfl rfl Tryd.func51 rfl ⟨rfl, rfl, ⟨_, rfl, LoadsTo.agg (cs := [.int .i64 e8, .int .i64 (l.length : Int)]) tf_agg72 rfl (cellsOwn 0 0 0 rfl rfl rfl)⟩, trivial⟩ (⟨_, _, _, _, rfl, rfl⟩)
        · intro hc3
          have hc3 : (e8 : Int) = 0 := of_decide_eq_true (bnot_false hc3)
          refine At.skip ?_
          refine At.region ?_
          refine AtL.move (.inl rfl) rfl rfl ?_
          obtain ⟨z9, hz9⟩ : ∃ z : Int, IntKind.i64.wrap (z6 * 2 ^ (min ((8 : Int).toNat) (IntKind.i64).bits)) = z := ⟨_, rfl⟩
          refine AtL.shl (z := z9) (.inl rfl) rfl rfl rfl (by omega) hz9 ?_
          refine AtL.move (.inl rfl) rfl rfl ?_
          have hB10 := u8_le (c7)
          refine AtL.convInt (z := (c7.toNat : Int)) Tryd.underlying5 Tryd.underlying3 (.inl rfl) rfl rfl (u8_i64 _) ?_
          obtain ⟨z11, hz11⟩ : ∃ z : Int, IntKind.i64.wrap ((BitVec.ofInt (IntKind.i64).bits z9 ||| BitVec.ofInt (IntKind.i64).bits (c7.toNat : Int)).toNat : Int) = z := ⟨_, rfl⟩
          refine AtL.bor (z := z11) (.inl rfl) rfl rfl rfl hz11 ?_
          refine AtL.assign (.inl rfl) rfl rfl ?_
          refine AtL.done ?_
          refine At.inBlock ?_
          refine At.region ?_
          refine AtL.add (z := 2) (.inl rfl) rfl rfl rfl (by decide) ?_
          refine AtL.move (.inl rfl) rfl rfl ?_
          refine AtL.done ?_
          refine At.again ?_
          refine At.seq ?_
          refine At.region ?_
          refine AtL.lss (.inl rfl) rfl rfl rfl ?_
          refine AtL.done ?_
          refine At.seq ?_
          refine At.condT rfl ?_
          refine At.skip ?_
          refine At.seq ?_
          refine At.block ?_
          refine At.seq ?_
          refine At.region ?_
          refine AtL.move (.inl rfl) rfl rfl ?_
          refine AtL.assign (.inl rfl) rfl rfl ?_
          refine AtL.done ?_
          refine At.seq ?_
          refine At.region ?_
          refine AtL.move (.inl rfl) rfl rfl ?_
          refine AtL.move (.inl rfl) rfl rfl ?_
          refine AtL.move (.inl rfl) rfl rfl ?_
          refine AtL.add (z := i + 2) (.inl rfl) rfl rfl rfl (w64 (by omega) (by omega)) ?_
          refine AtL.call tf_body63 (.inl rfl) rfl rfl (at_any (l := l) (Rd.skip 1 h) (i + 2)) ?_
          rintro _ _ ⟨c12, e13, rfl, rfl⟩
          refine AtL.move (.inl rfl) rfl rfl ?_
          refine AtL.extract (.inl rfl) rfl rfl rfl ?_
          refine AtL.extract (.inl rfl) rfl rfl rfl ?_
          refine AtL.assign (.inl rfl) rfl rfl ?_
          refine AtL.assign (.inl rfl) rfl rfl ?_
          refine AtL.done ?_
          refine At.seq ?_
          refine At.seq ?_
          refine At.region ?_
          refine AtL.move (.inl rfl) rfl rfl ?_
          refine AtL.nei (.inl rfl) rfl rfl rfl ?_
          refine AtL.done ?_
          refine At.cond rfl ?_ ?_
          · intro hc3
            have hc3 : ¬ ((e13 : Int) = 0) := of_decide_eq_false (bnot_true hc3)
            refine At.seq ?_
            refine At.region ?_
            refine AtL.move (.inl rfl) rfl rfl ?_
            refine AtL.move (.inl rfl) rfl rfl ?_
            refine AtL.lenL Tryd.underlying22 (.inl rfl) rfl rfl ?_
            refine AtL.build (cs := [.int .i64 e13, .int .i64 (l.length : Int)]) tf_lay72 (.inl rfl) rfl rfl rfl ?_
            refine AtL.assign (.inl rfl) rfl rfl ?_
            refine AtL.assign (.inl rfl) rfl rfl ?_
            refine AtL.store (H' := [(b1, .cells #[.int .i64 e13, .int .i64 (l.length : Int)] 72 (0, 0))] :: H) 0 0 tf_sz72 (.inl rfl) rfl rfl rfl rfl rfl rfl rfl rfl rfl ?_
            refine AtL.done ?_
            exact At.retMP (vs := [.int .i64 0, .int .i64 0, .agg #[.int .i64 e13, .int .i64 (l.length : Int)]]) (H2 := H) [] 1 rfl rfl Tryd.func51 rfl ⟨rfl, rfl, ⟨_, rfl, LoadsTo.agg (cs := [.int .i64 e13, .int .i64 (l.length : Int)]) tf_agg72 rfl (cellsOwn 0 0 0 rfl rfl rfl)⟩, trivial⟩ (⟨_, _, _, _, rfl, rfl⟩)
          · intro hc3
            have hc3 : (e13 : Int) = 0 := of_decide_eq_true (bnot_false hc3)
            refine At.skip ?_
            refine At.region ?_
            refine AtL.move (.inl rfl) rfl rfl ?_
            obtain ⟨z14, hz14⟩ : ∃ z : Int, IntKind.i64.wrap (z11 * 2 ^ (min ((8 : Int).toNat) (IntKind.i64).bits)) = z := ⟨_, rfl⟩
            refine AtL.shl (z := z14) (.inl rfl) rfl rfl rfl (by omega) hz14 ?_
            refine AtL.move (.inl rfl) rfl rfl ?_
            have hB15 := u8_le (c12)
            refine AtL.convInt (z := (c12.toNat : Int)) Tryd.underlying5 Tryd.underlying3 (.inl rfl) rfl rfl (u8_i64 _) ?_
            obtain ⟨z16, hz16⟩ : ∃ z : Int, IntKind.i64.wrap ((BitVec.ofInt (IntKind.i64).bits z14 ||| BitVec.ofInt (IntKind.i64).bits (c12.toNat : Int)).toNat : Int) = z := ⟨_, rfl⟩
            refine AtL.bor (z := z16) (.inl rfl) rfl rfl rfl hz16 ?_
            refine AtL.assign (.inl rfl) rfl rfl ?_
            refine AtL.done ?_
            refine At.inBlock ?_
            refine At.region ?_
            refine AtL.add (z := 3) (.inl rfl) rfl rfl rfl (by decide) ?_
            refine AtL.move (.inl rfl) rfl rfl ?_
            refine AtL.done ?_
            refine At.again ?_
            refine At.seq ?_
            refine At.region ?_
            refine AtL.lss (.inl rfl) rfl rfl rfl ?_
            refine AtL.done ?_
            refine At.seq ?_
            refine At.condT rfl ?_
            refine At.skip ?_
            refine At.seq ?_
            refine At.block ?_
            refine At.seq ?_
            refine At.region ?_
            refine AtL.move (.inl rfl) rfl rfl ?_
            refine AtL.assign (.inl rfl) rfl rfl ?_
            refine AtL.done ?_
            refine At.seq ?_
            refine At.region ?_
            refine AtL.move (.inl rfl) rfl rfl ?_
            refine AtL.move (.inl rfl) rfl rfl ?_
            refine AtL.move (.inl rfl) rfl rfl ?_
            refine AtL.add (z := i + 3) (.inl rfl) rfl rfl rfl (w64 (by omega) (by omega)) ?_
            refine AtL.call tf_body63 (.inl rfl) rfl rfl (at_any (l := l) (Rd.skip 1 h) (i + 3)) ?_
            rintro _ _ ⟨c17, e18, rfl, rfl⟩
            refine AtL.move (.inl rfl) rfl rfl ?_
            refine AtL.extract (.inl rfl) rfl rfl rfl ?_
            refine AtL.extract (.inl rfl) rfl rfl rfl ?_
            refine AtL.assign (.inl rfl) rfl rfl ?_
            refine AtL.assign (.inl rfl) rfl rfl ?_
            refine AtL.done ?_
            refine At.seq ?_
            refine At.seq ?_
            refine At.region ?_
            refine AtL.move (.inl rfl) rfl rfl ?_
            refine AtL.nei (.inl rfl) rfl rfl rfl ?_
            refine AtL.done ?_
            refine At.cond rfl ?_ ?_
            · intro hc3
              have hc3 : ¬ ((e18 : Int) = 0) := of_decide_eq_false (bnot_true hc3)
              refine At.seq ?_
              refine At.region ?_
              refine AtL.move (.inl rfl) rfl rfl ?_
              refine AtL.move (.inl rfl) rfl rfl ?_
              refine AtL.lenL Tryd.underlying22 (.inl rfl) rfl rfl ?_
              refine AtL.build (cs := [.int .i64 e18, .int .i64 (l.length : Int)]) tf_lay72 (.inl rfl) rfl rfl rfl ?_
              refine AtL.assign (.inl rfl) rfl rfl ?_
              refine AtL.assign (.inl rfl) rfl rfl ?_
              refine AtL.store (H' := [(b1, .cells #[.int .i64 e18, .int .i64 (l.length : Int)] 72 (0, 0))] :: H) 0 0 tf_sz72 (.inl rfl) rfl rfl rfl rfl rfl rfl rfl rfl rfl ?_
              refine AtL.done ?_
              exact At.retMP (vs := [.int .i64 0, .int .i64 0, .agg #[.int .i64 e18, .int .i64 (l.length : Int)]]) (H2 := H) [] 1 rfl rfl Tryd.func51 rfl ⟨rfl, rfl, ⟨_, rfl, LoadsTo.agg (cs := [.int .i64 e18, .int .i64 (l.length : Int)]) tf_agg72 rfl (cellsOwn 0 0 0 rfl rfl rfl)⟩, trivial⟩ (⟨_, _, _, _, rfl, rfl⟩)
            · intro hc3
              have hc3 : (e18 : Int) = 0 := of_decide_eq_true (bnot_false hc3)
              refine At.skip ?_
              refine At.region ?_
              refine AtL.move (.inl rfl) rfl rfl ?_
              obtain ⟨z19, hz19⟩ : ∃ z : Int, IntKind.i64.wrap (z16 * 2 ^ (min ((8 : Int).toNat) (IntKind.i64).bits)) = z := ⟨_, rfl⟩
              refine AtL.shl (z := z19) (.inl rfl) rfl rfl rfl (by omega) hz19 ?_
              refine AtL.move (.inl rfl) rfl rfl ?_
              have hB20 := u8_le (c17)
              refine AtL.convInt (z := (c17.toNat : Int)) Tryd.underlying5 Tryd.underlying3 (.inl rfl) rfl rfl (u8_i64 _) ?_
              obtain ⟨z21, hz21⟩ : ∃ z : Int, IntKind.i64.wrap ((BitVec.ofInt (IntKind.i64).bits z19 ||| BitVec.ofInt (IntKind.i64).bits (c17.toNat : Int)).toNat : Int) = z := ⟨_, rfl⟩
              refine AtL.bor (z := z21) (.inl rfl) rfl rfl rfl hz21 ?_
              refine AtL.assign (.inl rfl) rfl rfl ?_
              refine AtL.done ?_
              refine At.inBlock ?_
              refine At.region ?_
              refine AtL.add (z := 4) (.inl rfl) rfl rfl rfl (by decide) ?_
              refine AtL.move (.inl rfl) rfl rfl ?_
              refine AtL.done ?_
              refine At.again ?_
              refine At.seq ?_
              refine At.region ?_
              refine AtL.lss (.inl rfl) rfl rfl rfl ?_
              refine AtL.done ?_
              refine At.seq ?_
              refine At.condF rfl ?_
              refine At.exit rfl ?_
              refine At.seq ?_
              refine At.region ?_
              refine AtL.move (.inl rfl) rfl rfl ?_
              refine AtL.move (.inl rfl) rfl rfl ?_
              refine AtL.move (.inl rfl) rfl rfl ?_
              refine AtL.add (z := i + 4) (.inl rfl) rfl rfl rfl (w64 (by omega) (by omega)) ?_
              refine AtL.build (cs := [.int .i64 0, .int .i64 0]) tf_lay72 (.inl rfl) rfl rfl rfl ?_
              refine AtL.assign (.inl rfl) rfl rfl ?_
              refine AtL.assign (.inl rfl) rfl rfl ?_
              refine AtL.store (H' := [(b1, .cells #[.int .i64 0, .int .i64 0] 72 (0, 0))] :: H) 0 0 tf_sz72 (.inl rfl) rfl rfl rfl rfl rfl rfl rfl rfl rfl ?_
              refine AtL.done ?_
              exact At.retMP (vs := [.int .i64 z21, .int .i64 (i + 4), .agg #[.int .i64 0, .int .i64 0]]) (H2 := H) [] 1 rfl rfl Tryd.func51 rfl ⟨rfl, rfl, ⟨_, rfl, LoadsTo.agg (cs := [.int .i64 0, .int .i64 0]) tf_agg72 rfl (cellsOwn 0 0 0 rfl rfl rfl)⟩, trivial⟩ (⟨_, _, _, _, rfl, rfl⟩)

set_option maxHeartbeats 400000 in
theorem get32_any {w0 : World} {base : Nat} {H : List Seg} {A : Option Addr} {C : Nat} {l : List UInt8} (h : Rd tyB w0 base H A C l) (i : Int) (hi : -1000 ≤ i) (hi2 : i ≤ 4611686018427387904) (hl : l.length ≤ 4611686018427387904) :
    SCalls Tryd.prog 39 [.slice A l.length C, .int .i64 i] w0 base (H) (fun v H' => ∃ a b c d : Int, v = .tuple #[int a, int b, .agg #[int c, int d]] ∧ H' = H) := by
  refine SCalls.of_walk (n := 13) Tryd.func39 rfl rfl rfl fun cs => ?_
  refine At.seq ?_
  refine At.region ?_
  refine AtL.assign (.inl rfl) rfl rfl ?_
  refine AtL.assign (.inl rfl) rfl rfl ?_
  refine AtL.alloc tf_zero72 (cs := #[.int .i64 0, .int .i64 0]) rfl (.inl rfl) rfl ?_
  intro b1
  refine AtL.done ?_
  refine At.seq ?_
  refine At.region ?_
  refine AtL.move (.inl rfl) rfl rfl ?_
  refine AtL.move (.inl rfl) rfl rfl ?_
  refine AtL.call tf_body51 (.inl rfl) rfl rfl (get4_any (l := l) (Rd.skip 1 h) i (by omega) (by omega) (by omega)) ?_
  rintro _ _ ⟨n2, k3, e4, f5, rfl, rfl⟩
  refine AtL.extract (.inl rfl) rfl rfl rfl ?_
  refine AtL.extract (.inl rfl) rfl rfl rfl ?_
  refine AtL.extract (.inl rfl) rfl rfl rfl ?_
  refine AtL.assign (.inl rfl) rfl rfl ?_
  refine AtL.assign (.inl rfl) rfl rfl ?_
  refine AtL.store (H' := [(b1, .cells #[.int .i64 e4, .int .i64 f5] 72 (0, 0))] :: H) 0 0 tf_sz72 (.inl rfl) rfl rfl rfl rfl rfl rfl rfl rfl rfl ?_
  refine AtL.done ?_
  exact At.retMP (vs := [.int .i64 n2, .int .i64 k3, .agg #[.int .i64 e4, .int .i64 f5]]) (H2 := H) [] 1 rfl rfl Tryd.func39 rfl ⟨rfl, rfl, ⟨_, rfl, LoadsTo.agg (cs := [.int .i64 e4, .int .i64 f5]) tf_agg72 rfl (cellsOwn 0 0 0 rfl rfl rfl)⟩, trivial⟩ (⟨_, _, _, _, rfl, rfl⟩)

end Go.Proofs.YtlkdmbpbjhjkfaaDoor
