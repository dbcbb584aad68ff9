/- The contracts of octet.Get16. -/
import Derived.Test.YtllfgcekebafhaaO1
namespace Go.Proofs.Ytllfgcekebafhaa
set_option linter.unusedVariables false
set_option linter.unusedSimpArgs false
set_option maxRecDepth 100000

set_option maxHeartbeats 400000 in
theorem at1_ret {w0 : World} {base : Nat} {H : List Seg} {b : Nat} {x : Value} :
    DCalls Try.prog 66 [.pointer (some ⟨b, 0, none⟩)] w0 base ([(b, .cells #[x] 25 (0, 0))] :: H) .returning (fun m' H' => m' = .returning ∧ H' = [(b, .cells #[x] 25 (0, 0))] :: H) := by
  refine DCalls.of_walk (n := 14) Try.func66 rfl rfl rfl fun fr cs => ?_
  refine At.seq ?_
  refine At.region ?_
  refine AtL.recoverNone rfl ?_
  refine AtL.assign (.inl rfl) rfl rfl ?_
  refine AtL.done ?_
  refine At.seq ?_
  refine At.seq ?_
  refine At.region ?_
  refine AtL.move (.inl rfl) rfl rfl ?_
  refine AtL.typeAssert (u := .tuple #[.nilIface, .bool false]) (.inl rfl) rfl rfl (fun w => by kernel_rfl) ?_
  refine AtL.move (.inl rfl) rfl rfl ?_
  refine AtL.extract (.inl rfl) rfl rfl rfl ?_
  refine AtL.extract (.inl rfl) rfl rfl rfl ?_
  refine AtL.assign (.inl rfl) rfl rfl ?_
  refine AtL.assign (.inl rfl) rfl rfl ?_
  refine AtL.done ?_
  refine At.seq ?_
  refine At.region ?_
  refine AtL.move (.inl rfl) rfl rfl ?_
  refine AtL.done ?_
  refine At.condF rfl ?_
  refine At.skip ?_
  refine At.seq ?_
  refine At.region ?_
  refine AtL.move (.inl rfl) rfl rfl ?_
  refine AtL.neNilIface Try.underlying20 (.inl rfl) rfl rfl ?_
  refine AtL.done ?_
  refine At.condF rfl ?_
  refine At.skip ?_
  refine At.endU rfl ?_
  exact Un.leftD (vs := []) Try.func66 rfl trivial (⟨rfl, rfl⟩)

set_option maxHeartbeats 400000 in
theorem at1_bad {w0 : World} {base : Nat} {H : List Seg} {b : Nat} {x : Value} (i m : Int) (s : Bool) :
    DCalls Try.prog 66 [.pointer (some ⟨b, 0, none⟩)] w0 base ([(b, .cells #[x] 25 (0, 0))] :: H) (.panicking [{ v := .iface Try.prog.rt.boundsError (.agg #[.int .i64 i, .int .i64 m, .bool s, .int .u8 0]), recovered := false }]) (fun m' H' => m' = .returning ∧ H' = [(b, .cells #[int 4] 25 (0, 0))] :: H) := by
  refine DCalls.of_walk (n := 14) Try.func66 rfl rfl rfl fun fr cs => ?_
  refine At.seq ?_
  refine At.region ?_
  refine AtL.recoverSome rfl ?_
  refine AtL.assign (.inl rfl) rfl rfl ?_
  refine AtL.done ?_
  refine At.seq ?_
  refine At.seq ?_
  refine At.region ?_
  refine AtL.move (.inl rfl) rfl rfl ?_
  refine AtL.typeAssert (u := .tuple #[.iface Try.prog.rt.boundsError (.agg #[.int .i64 i, .int .i64 m, .bool s, .int .u8 0]), .bool true]) (.inl rfl) rfl rfl (fun w => by kernel_rfl) ?_
  refine AtL.move (.inl rfl) rfl rfl ?_
  refine AtL.extract (.inl rfl) rfl rfl rfl ?_
  refine AtL.extract (.inl rfl) rfl rfl rfl ?_
  refine AtL.assign (.inl rfl) rfl rfl ?_
  refine AtL.assign (.inl rfl) rfl rfl ?_
  refine AtL.done ?_
  refine At.seq ?_
  refine At.region ?_
  refine AtL.move (.inl rfl) rfl rfl ?_
  refine AtL.done ?_
  refine At.condT rfl ?_
  refine At.seq ?_
  refine At.region ?_
  refine AtL.store (H' := [(b, .cells #[.int .i64 4] 25 (0, 0))] :: H) 0 0 tf_sz25 (.inl rfl) rfl rfl rfl rfl rfl rfl rfl rfl rfl ?_
  refine AtL.done ?_
  refine At.retU rfl ?_
  exact Un.leftD (vs := []) Try.func66 rfl trivial (⟨rfl, rfl⟩)

/-- The byte at i, or that there is none. -/
def atF (l : List UInt8) (i : Int) : UInt8 × Int := if 0 ≤ i ∧ i < (l.length : Int) then (l.getD i.toNat 0, 0) else (0, 4)

set_option maxHeartbeats 400000 in
theorem at_ok {w0 : World} {base : Nat} {H : List Seg} {A : Option Addr} {C : Nat} {l : List UInt8} (h : Rd tyB w0 base H A C l) (i : Int) :
    SCalls Try.prog 65 [.slice A l.length C, .int .i64 i] w0 base (H) (fun v H' => v = .tuple #[.int .u8 (atF l i).1.toNat, int (atF l i).2] ∧ H' = H) := by
  refine SCalls.of_walk (n := 11) Try.func65 rfl rfl rfl fun cs => ?_
  refine At.seq ?_
  refine At.region ?_
  refine AtL.assign (.inl rfl) rfl rfl ?_
  refine AtL.alloc tf_zero25 (cs := #[.int .i64 0]) rfl (.inl rfl) rfl ?_
  intro b1
  refine AtL.done ?_
  refine At.seq ?_
  refine At.region ?_
  refine AtL.makeFunc (.inl rfl) rfl rfl rfl ?_
  refine AtL.defer rfl (.inl rfl) rfl rfl rfl ?_
  refine AtL.done ?_
  refine At.seq ?_
  refine At.region ?_
  refine AtL.move (.inl rfl) rfl rfl ?_
  refine AtL.move (.inl rfl) rfl rfl ?_
  rcases Classical.em (0 ≤ i ∧ i < (l.length : Int)) with hin | hin
  · skip
    obtain ⟨j, hj⟩ : ∃ j : Nat, i = (j : Int) := ⟨(i).toNat, by omega⟩
    refine AtL.indexL j (Rd.skip 1 h) Try.underlying22 tf_sz5 (.inl rfl) rfl rfl rfl hj (by omega) ?_
    refine AtL.load (v := .int .u8 ((l.getD j 0).toNat : Int)) tf_flat5 (.inl rfl) rfl rfl (Rd.cell0 (Rd.skip 1 h) (getD_some 0 (by omega)) rfl) ?_
    refine AtL.assign (.inl rfl) rfl rfl ?_
    refine AtL.store (H' := [(b1, .cells #[.int .i64 0] 25 (0, 0))] :: H) 0 0 tf_sz25 (.inl rfl) rfl rfl rfl rfl rfl rfl rfl rfl rfl ?_
    refine AtL.done ?_
    refine At.retU rfl ?_
    refine Un.defer tf_body66 rfl rfl at1_ret ?_
    rintro _ _ ⟨rfl, rfl⟩
    exact Un.leftP (vs := [.int .u8 ((l.getD j 0).toNat : Int), .int .i64 0]) (H2 := H) [] 1 rfl rfl Try.func65 rfl ⟨rfl, ⟨_, rfl, LoadsTo.flat tf_flat25 (Cell.own 0 0 rfl rfl rfl)⟩, trivial⟩ (⟨by subst hj; rw [atF, if_pos hin]; rfl, rfl⟩)
  · skip
    refine AtL.indexPanics Try.underlying22 (.inl rfl) rfl rfl (by omega) ?_
    intro m s
    refine Un.defer tf_body66 rfl rfl (at1_bad _ _ _) ?_
    rintro _ _ ⟨rfl, rfl⟩
    exact Un.leftP (vs := [.int .u8 0, .int .i64 4]) (H2 := H) [] 1 rfl rfl Try.func65 rfl ⟨rfl, ⟨_, rfl, LoadsTo.flat tf_flat25 (Cell.own 0 0 rfl rfl rfl)⟩, trivial⟩ (⟨by rw [atF, if_neg hin]; rfl, rfl⟩)

theorem atF_in {l : List UInt8} {i : Nat} (h : i < l.length) : atF l i = (l.getD i 0, 0) := by rw [atF, if_pos (by omega)]; rfl
theorem atF_out {l : List UInt8} {i : Nat} (h : l.length ≤ i) : atF l i = (0, 4) := by rw [atF, if_neg (by omega)]
/-- Two bytes at i: number, place behind, error, place of the error. -/
def get16F (l : List UInt8) (i : Nat) : Int × Int × Int × Int :=
  if l.length < i + 2 then (0, 0, if l.length < i then 5 else 4, if l.length < i then 0 else l.length) else (256 * (l.getD i 0).toNat + (l.getD (i + 1) 0).toNat, i + 2, 0, 0)

set_option maxHeartbeats 400000 in
theorem get2_ok {w0 : World} {base : Nat} {H : List Seg} {A : Option Addr} {C : Nat} {l : List UInt8} (h : Rd tyB w0 base H A C l) (i : Nat) (hi : i ≤ 4611686018427387904) (hl : l.length ≤ 4611686018427387904) :
    SCalls Try.prog 64 [.slice A l.length C, .int .i64 (i : Int), .int .i64 2] w0 base (H) (fun v H' => v = .tuple #[int (get16F l i).1, int (get16F l i).2.1, .agg #[int (get16F l i).2.2.1, int (get16F l i).2.2.2]] ∧ H' = H) := by
  refine SCalls.of_walk (n := 51) Try.func64 rfl rfl rfl fun cs => ?_
  refine At.seq ?_
  refine At.region ?_
  refine AtL.assign (.inl rfl) rfl rfl ?_
  refine AtL.assign (.inl rfl) rfl rfl ?_
  refine AtL.alloc tf_zero94 (cs := #[.int .i64 0, .int .i64 0]) rfl (.inl rfl) rfl ?_
  intro b1
  refine AtL.done ?_
  refine At.seq ?_
  refine At.seq ?_
  refine At.region ?_
  refine AtL.move (.inl rfl) rfl rfl ?_
  refine AtL.lss (.inl rfl) rfl rfl rfl ?_
  refine AtL.move (.inl rfl) rfl rfl ?_
  refine AtL.join 5 (E' := [(20, .bool (decide ((l.length : Int) < (i : Int)))), (0, .slice A l.length C), (1, .int .i64 (i : Int)), (2, .int .i64 2), (8, .pointer (some ⟨b1, 0, none⟩))]) (H' := [(b1, .cells #[.int .i64 0, .int .i64 0] 94 (0, 0))] :: H) (fun J => ?_) ?_
  · refine AtL.split (t := 15) rfl ?_ ?_
    · intro hs15
      have hs15 : (i : Int) < 0 := of_decide_eq_true hs15
      exact absurd hs15 (by omega)
    · intro hs15
      have hs15 : ¬ ((i : Int) < 0) := of_decide_eq_false hs15
      refine AtL.move (.inr ⟨_, _, _, rfl, rfl, rfl, rfl⟩) rfl rfl ?_
      refine AtL.move (.inr ⟨_, _, _, rfl, rfl, rfl, rfl⟩) rfl rfl ?_
      refine AtL.lenL Try.underlying22 (.inr ⟨_, _, _, rfl, rfl, rfl, rfl⟩) rfl rfl ?_
      refine AtL.gtr (.inr ⟨_, _, _, rfl, rfl, rfl, rfl⟩) rfl rfl rfl ?_
      refine AtL.pickF (.inl rfl) rfl rfl rfl ?_
      exact J _ (by exact ⟨(boolIs (by clear J; first | (simp [hs15]; done) | (simp_all; done) | grind)), rfl, rfl, rfl, rfl, trivial⟩)
  · skip
    refine AtL.done ?_
    refine At.cond rfl ?_ ?_
    · intro hc1
      have hc1 : (l.length : Int) < (i : Int) := of_decide_eq_true hc1
      refine At.seq ?_
      refine At.region ?_
      refine AtL.build (cs := [.int .i64 5, .int .i64 0]) tf_lay94 (.inl rfl) rfl rfl rfl ?_
      refine AtL.assign (.inl rfl) rfl rfl ?_
      refine AtL.assign (.inl rfl) rfl rfl ?_
      refine AtL.store (H' := [(b1, .cells #[.int .i64 5, .int .i64 0] 94 (0, 0))] :: H) 0 0 tf_sz94 (.inl rfl) rfl rfl rfl rfl rfl rfl rfl rfl rfl ?_
      refine AtL.done ?_
      exact At.retMP (vs := [.int .i64 0, .int .i64 0, .agg #[.int .i64 5, .int .i64 0]]) (H2 := H) [] 1 rfl rfl Try.func64 rfl ⟨rfl, rfl, ⟨_, rfl, LoadsTo.agg (cs := [.int .i64 5, .int .i64 0]) tf_agg94 rfl (cellsOwn 0 0 0 rfl rfl rfl)⟩, trivial⟩ (⟨by grind [oneOf, get16F, atF], rfl⟩)
    · intro hc1
      have hc1 : ¬ ((l.length : Int) < (i : Int)) := of_decide_eq_false hc1
      refine At.skip ?_
      refine At.seq ?_
      refine At.region ?_
      refine AtL.assign (.inl rfl) rfl rfl ?_
      refine AtL.done ?_
      refine At.seq ?_
      refine At.seq ?_
      refine At.region ?_
      refine AtL.move (.inl rfl) rfl rfl ?_
      refine AtL.move (.inl rfl) rfl rfl ?_
      refine AtL.done ?_
      refine At.block ?_
      refine At.unroll ?_
      refine At.seq ?_
      refine At.region ?_
      refine AtL.lss (.inl rfl) rfl rfl rfl ?_
      refine AtL.done ?_
      refine At.seq ?_
      refine At.condT rfl ?_
      refine At.skip ?_
      refine At.seq ?_
      refine At.block ?_
      refine At.seq ?_
      refine At.region ?_
      refine AtL.move (.inl rfl) rfl rfl ?_
      refine AtL.assign (.inl rfl) rfl rfl ?_
      refine AtL.done ?_
      refine At.seq ?_
      refine At.region ?_
      refine AtL.move (.inl rfl) rfl rfl ?_
      refine AtL.move (.inl rfl) rfl rfl ?_
      refine AtL.move (.inl rfl) rfl rfl ?_
      refine AtL.add (z := (i : Int) + 0) (.inl rfl) rfl rfl rfl (w64 (by omega) (by omega)) ?_
      refine AtL.call tf_body65 (.inl rfl) rfl rfl (at_ok (l := l) (Rd.skip 1 h) ((i : Int) + 0)) ?_
      rintro _ _ ⟨rfl, rfl⟩
      refine AtL.move (.inl rfl) rfl rfl ?_
      refine AtL.extract (.inl rfl) rfl rfl rfl ?_
      refine AtL.extract (.inl rfl) rfl rfl rfl ?_
      refine AtL.assign (.inl rfl) rfl rfl ?_
      refine AtL.assign (.inl rfl) rfl rfl ?_
      refine AtL.done ?_
      have hB0 := (atF l (((i : Nat) : Int) + 0)).1.toNat_lt
      refine At.seq ?_
      refine At.seq ?_
      refine At.region ?_
      refine AtL.move (.inl rfl) rfl rfl ?_
      refine AtL.nei (.inl rfl) rfl rfl rfl ?_
      refine AtL.done ?_
      refine At.cond rfl ?_ ?_
      · intro hc3
        have hc3 : ¬ (((atF l ((i : Int) + 0)).2) = 0) := of_decide_eq_false (bnot_true hc3)
        refine At.seq ?_
        refine At.region ?_
        refine AtL.move (.inl rfl) rfl rfl ?_
        refine AtL.move (.inl rfl) rfl rfl ?_
        refine AtL.lenL Try.underlying22 (.inl rfl) rfl rfl ?_
        refine AtL.build (cs := [.int .i64 ((atF l ((i : Int) + 0)).2), .int .i64 (l.length : Int)]) tf_lay94 (.inl rfl) rfl rfl rfl ?_
        refine AtL.assign (.inl rfl) rfl rfl ?_
        refine AtL.assign (.inl rfl) rfl rfl ?_
        refine AtL.store (H' := [(b1, .cells #[.int .i64 ((atF l ((i : Int) + 0)).2), .int .i64 (l.length : Int)] 94 (0, 0))] :: H) 0 0 tf_sz94 (.inl rfl) rfl rfl rfl rfl rfl rfl rfl rfl rfl ?_
        refine AtL.done ?_
        exact At.retMP (vs := [.int .i64 0, .int .i64 0, .agg #[.int .i64 ((atF l ((i : Int) + 0)).2), .int .i64 (l.length : Int)]]) (H2 := H) [] 1 rfl rfl Try.func64 rfl ⟨rfl, rfl, ⟨_, rfl, LoadsTo.agg (cs := [.int .i64 ((atF l ((i : Int) + 0)).2), .int .i64 (l.length : Int)]) tf_agg94 rfl (cellsOwn 0 0 0 rfl rfl rfl)⟩, trivial⟩ (⟨by grind [oneOf, get16F, atF], rfl⟩)
      · intro hc3
        have hc3 : ((atF l ((i : Int) + 0)).2) = 0 := of_decide_eq_true (bnot_false hc3)
        refine At.skip ?_
        refine At.region ?_
        refine AtL.move (.inl rfl) rfl rfl ?_
        refine AtL.shl (z := 0 * 256) (.inl rfl) rfl rfl rfl (by omega) (shl_eq _ _ 8 rfl (by decide) _ (by decide) (by omega) (by omega)) ?_
        refine AtL.move (.inl rfl) rfl rfl ?_
        have hB2 := u8_le (((atF l ((i : Int) + 0)).1))
        refine AtL.convInt (z := ((atF l ((i : Int) + 0)).1.toNat : Int)) Try.underlying5 Try.underlying3 (.inl rfl) rfl rfl (u8_i64 _) ?_
        refine AtL.bor (z := (0 * 256) + ((atF l ((i : Int) + 0)).1.toNat : Int)) (.inl rfl) rfl rfl rfl (or_add 8 (Int.toNat 0) _ (by omega) rfl (by omega) (by omega)) ?_
        refine AtL.assign (.inl rfl) rfl rfl ?_
        refine AtL.done ?_
        refine At.inBlock ?_
        refine At.region ?_
        refine AtL.add (z := 1) (.inl rfl) rfl rfl rfl (by decide) ?_
        refine AtL.move (.inl rfl) rfl rfl ?_
        refine AtL.done ?_
        refine At.again ?_
        refine At.seq ?_
        refine At.region ?_
        refine AtL.lss (.inl rfl) rfl rfl rfl ?_
        refine AtL.done ?_
        refine At.seq ?_
        refine At.condT rfl ?_
        refine At.skip ?_
        refine At.seq ?_
        refine At.block ?_
        refine At.seq ?_
        refine At.region ?_
        refine AtL.move (.inl rfl) rfl rfl ?_
        refine AtL.assign (.inl rfl) rfl rfl ?_
        refine AtL.done ?_
        refine At.seq ?_
        refine At.region ?_
        refine AtL.move (.inl rfl) rfl rfl ?_
        refine AtL.move (.inl rfl) rfl rfl ?_
        refine AtL.move (.inl rfl) rfl rfl ?_
        refine AtL.add (z := (i : Int) + 1) (.inl rfl) rfl rfl rfl (w64 (by omega) (by omega)) ?_
        refine AtL.call tf_body65 (.inl rfl) rfl rfl (at_ok (l := l) (Rd.skip 1 h) ((i : Int) + 1)) ?_
        rintro _ _ ⟨rfl, rfl⟩
        refine AtL.move (.inl rfl) rfl rfl ?_
        refine AtL.extract (.inl rfl) rfl rfl rfl ?_
        refine AtL.extract (.inl rfl) rfl rfl rfl ?_
        refine AtL.assign (.inl rfl) rfl rfl ?_
        refine AtL.assign (.inl rfl) rfl rfl ?_
        refine AtL.done ?_
        have hB1 := (atF l (((i : Nat) : Int) + 1)).1.toNat_lt
        refine At.seq ?_
        refine At.seq ?_
        refine At.region ?_
        refine AtL.move (.inl rfl) rfl rfl ?_
        refine AtL.nei (.inl rfl) rfl rfl rfl ?_
        refine AtL.done ?_
        refine At.cond rfl ?_ ?_
        · intro hc3
          have hc3 : ¬ (((atF l ((i : Int) + 1)).2) = 0) := of_decide_eq_false (bnot_true hc3)
          refine At.seq ?_
          refine At.region ?_
          refine AtL.move (.inl rfl) rfl rfl ?_
          refine AtL.move (.inl rfl) rfl rfl ?_
          refine AtL.lenL Try.underlying22 (.inl rfl) rfl rfl ?_
          refine AtL.build (cs := [.int .i64 ((atF l ((i : Int) + 1)).2), .int .i64 (l.length : Int)]) tf_lay94 (.inl rfl) rfl rfl rfl ?_
          refine AtL.assign (.inl rfl) rfl rfl ?_
          refine AtL.assign (.inl rfl) rfl rfl ?_
          refine AtL.store (H' := [(b1, .cells #[.int .i64 ((atF l ((i : Int) + 1)).2), .int .i64 (l.length : Int)] 94 (0, 0))] :: H) 0 0 tf_sz94 (.inl rfl) rfl rfl rfl rfl rfl rfl rfl rfl rfl ?_
          refine AtL.done ?_
          exact At.retMP (vs := [.int .i64 0, .int .i64 0, .agg #[.int .i64 ((atF l ((i : Int) + 1)).2), .int .i64 (l.length : Int)]]) (H2 := H) [] 1 rfl rfl Try.func64 rfl ⟨rfl, rfl, ⟨_, rfl, LoadsTo.agg (cs := [.int .i64 ((atF l ((i : Int) + 1)).2), .int .i64 (l.length : Int)]) tf_agg94 rfl (cellsOwn 0 0 0 rfl rfl rfl)⟩, trivial⟩ (⟨by grind [oneOf, get16F, atF], rfl⟩)
        · intro hc3
          have hc3 : ((atF l ((i : Int) + 1)).2) = 0 := of_decide_eq_true (bnot_false hc3)
          refine At.skip ?_
          refine At.region ?_
          refine AtL.move (.inl rfl) rfl rfl ?_
          refine AtL.shl (z := ((0 * 256) + ((atF l ((i : Int) + 0)).1.toNat : Int)) * 256) (.inl rfl) rfl rfl rfl (by omega) (shl_eq _ _ 8 rfl (by decide) _ (by decide) (by omega) (by omega)) ?_
          refine AtL.move (.inl rfl) rfl rfl ?_
          have hB3 := u8_le (((atF l ((i : Int) + 1)).1))
          refine AtL.convInt (z := ((atF l ((i : Int) + 1)).1.toNat : Int)) Try.underlying5 Try.underlying3 (.inl rfl) rfl rfl (u8_i64 _) ?_
          refine AtL.bor (z := (((0 * 256) + ((atF l ((i : Int) + 0)).1.toNat : Int)) * 256) + ((atF l ((i : Int) + 1)).1.toNat : Int)) (.inl rfl) rfl rfl rfl (or_add 8 (Int.toNat ((0 * 256) + ((atF l ((i : Int) + 0)).1.toNat : Int))) _ (by omega) rfl (by omega) (by omega)) ?_
          refine AtL.assign (.inl rfl) rfl rfl ?_
          refine AtL.done ?_
          refine At.inBlock ?_
          refine At.region ?_
          refine AtL.add (z := 2) (.inl rfl) rfl rfl rfl (by decide) ?_
          refine AtL.move (.inl rfl) rfl rfl ?_
          refine AtL.done ?_
          refine At.again ?_
          refine At.seq ?_
          refine At.region ?_
          refine AtL.lss (.inl rfl) rfl rfl rfl ?_
          refine AtL.done ?_
          refine At.seq ?_
          refine At.condF rfl ?_
          refine At.exit rfl ?_
          refine At.seq ?_
          refine At.region ?_
          refine AtL.move (.inl rfl) rfl rfl ?_
          refine AtL.move (.inl rfl) rfl rfl ?_
          refine AtL.move (.inl rfl) rfl rfl ?_
          refine AtL.add (z := (i : Int) + 2) (.inl rfl) rfl rfl rfl (w64 (by omega) (by omega)) ?_
          refine AtL.build (cs := [.int .i64 0, .int .i64 0]) tf_lay94 (.inl rfl) rfl rfl rfl ?_
          refine AtL.assign (.inl rfl) rfl rfl ?_
          refine AtL.assign (.inl rfl) rfl rfl ?_
          refine AtL.store (H' := [(b1, .cells #[.int .i64 0, .int .i64 0] 94 (0, 0))] :: H) 0 0 tf_sz94 (.inl rfl) rfl rfl rfl rfl rfl rfl rfl rfl rfl ?_
          refine AtL.done ?_
          exact At.retMP (vs := [.int .i64 ((((0 * 256) + ((atF l ((i : Int) + 0)).1.toNat : Int)) * 256) + ((atF l ((i : Int) + 1)).1.toNat : Int)), .int .i64 ((i : Int) + 2), .agg #[.int .i64 0, .int .i64 0]]) (H2 := H) [] 1 rfl rfl Try.func64 rfl ⟨rfl, rfl, ⟨_, rfl, LoadsTo.agg (cs := [.int .i64 0, .int .i64 0]) tf_agg94 rfl (cellsOwn 0 0 0 rfl rfl rfl)⟩, trivial⟩ (⟨by grind [oneOf, get16F, atF], rfl⟩)

set_option maxHeartbeats 400000 in
theorem get16_ok {w0 : World} {base : Nat} {H : List Seg} {A : Option Addr} {C : Nat} {l : List UInt8} (h : Rd tyB w0 base H A C l) (i : Nat) (hi : i ≤ 4611686018427387904) (hl : l.length ≤ 4611686018427387904) :
    SCalls Try.prog 63 [.slice A l.length C, .int .i64 (i : Int)] w0 base (H) (fun v H' => v = .tuple #[int (get16F l i).1, int (get16F l i).2.1, .agg #[int (get16F l i).2.2.1, int (get16F l i).2.2.2]] ∧ H' = H) := by
  refine SCalls.of_walk (n := 13) Try.func63 rfl rfl rfl fun cs => ?_
  refine At.seq ?_
  refine At.region ?_
  refine AtL.assign (.inl rfl) rfl rfl ?_
  refine AtL.assign (.inl rfl) rfl rfl ?_
  refine AtL.alloc tf_zero94 (cs := #[.int .i64 0, .int .i64 0]) rfl (.inl rfl) rfl ?_
  intro b1
  refine AtL.done ?_
  refine At.seq ?_
  refine At.region ?_
  refine AtL.move (.inl rfl) rfl rfl ?_
  refine AtL.move (.inl rfl) rfl rfl ?_
  refine AtL.call tf_body64 (.inl rfl) rfl rfl (get2_ok (l := l) (Rd.skip 1 h) i (by omega) (by omega)) ?_
  rintro _ _ ⟨rfl, rfl⟩
  refine AtL.extract (.inl rfl) rfl rfl rfl ?_
  refine AtL.extract (.inl rfl) rfl rfl rfl ?_
  refine AtL.extract (.inl rfl) rfl rfl rfl ?_
  refine AtL.assign (.inl rfl) rfl rfl ?_
  refine AtL.assign (.inl rfl) rfl rfl ?_
  refine AtL.store (H' := [(b1, .cells #[.int .i64 ((get16F l i).2.2.1), .int .i64 ((get16F l i).2.2.2)] 94 (0, 0))] :: H) 0 0 tf_sz94 (.inl rfl) rfl rfl rfl rfl rfl rfl rfl rfl rfl ?_
  refine AtL.done ?_
  exact At.retMP (vs := [.int .i64 ((get16F l i).1), .int .i64 ((get16F l i).2.1), .agg #[.int .i64 ((get16F l i).2.2.1), .int .i64 ((get16F l i).2.2.2)]]) (H2 := H) [] 1 rfl rfl Try.func63 rfl ⟨rfl, rfl, ⟨_, rfl, LoadsTo.agg (cs := [.int .i64 ((get16F l i).2.2.1), .int .i64 ((get16F l i).2.2.2)]) tf_agg94 rfl (cellsOwn 0 0 0 rfl rfl rfl)⟩, trivial⟩ (⟨rfl, rfl⟩)

end Go.Proofs.Ytllfgcekebafhaa
