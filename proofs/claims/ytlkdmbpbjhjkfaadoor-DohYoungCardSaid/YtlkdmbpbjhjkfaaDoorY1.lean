/- Names: whether it may be, not told. -/
import Derived.Test.YtlkdmbpbjhjkfaaDoorK1
import Derived.Test.YtlkdmbpbjhjkfaaDoorLgZ
import Derived.Test.YtlkdmbpbjhjkfaaDoorLgI
import Derived.Test.YtlkdmbpbjhjkfaaDoorLgM
namespace Go.Proofs.YtlkdmbpbjhjkfaaDoor
set_option linter.unusedVariables false
set_option linter.unusedSimpArgs false
set_option maxRecDepth 100000

theorem y_in {P : Program} {lp : Nat} {args : List Value} {w0 : World} {base : Nat} {s : Seg} {Hc T : List Seg} {B : Bool → List Seg → Prop}
    (h : ∀ T', YCalls P lp args w0 base (Hc ++ T') (fun v H' => ∃ (b : Bool) (Hc' : List Seg), v = .bool b ∧ H' = Hc' ++ T' ∧ B b Hc')) : YCalls P lp args w0 base (s :: (Hc ++ T)) (fun v H' => ∃ (b : Bool) (Hc' : List Seg), v = .bool b ∧ H' = s :: (Hc' ++ T) ∧ B b Hc') :=
  (YCalls.perm (perm1 s Hc T) (h (s :: T))).permR fun v H1 ⟨b, Hc', e, eH, hA⟩ => ⟨_, eH ▸ (perm1 s Hc' T).symm, b, Hc', e, rfl, hA⟩

set_option maxHeartbeats 400000 in
theorem all1_ok {w0 : World} {base : Nat} {T Hc : List Seg} {lp bn : Nat} {n : List UInt8} {J : Nat → List Seg → Prop} {K : List Seg → Prop} (hn : n.length ≤ 65535)
    (hY : ∀ u f Hc, u.length ≤ n.length → J (f + 1) Hc → ∀ T', YCalls Tryd.prog lp [str u, .bool true] w0 base (Hc ++ T') (fun v H' => ∃ (b : Bool) (Hc' : List Seg), v = .bool b ∧ H' = Hc' ++ T' ∧ ((b = true → J f Hc') ∧ (b = false → K Hc'))))
    (hF : ∀ f Hc, J f Hc → ∀ T', YCalls Tryd.prog lp [str [], .bool false] w0 base (Hc ++ T') (fun v H' => ∃ (b : Bool) (Hc' : List Seg), v = .bool b ∧ H' = Hc' ++ T' ∧ ((b = true → J f Hc') ∧ (b = false → K Hc'))))
    (h0 : J n.length Hc) :
    SCalls Tryd.prog 72 [.func (.yield lp) #[] #[], .pointer (some ⟨bn, 0, none⟩)] w0 base ([(bn, .cells #[str n] 9 (0, 0))] :: (Hc ++ T)) (fun v H' => ∃ (b : Bool) (f : Nat) (y : List UInt8) (Hc' : List Seg), (b = true → J f Hc') ∧ (b = false → K Hc') ∧ v = .tuple #[] ∧ H' = [(bn, .cells #[str y] 9 (0, 0))] :: (Hc' ++ T)) := by
  refine SCalls.of_walk (n := 43) Tryd.func72 rfl rfl rfl fun cs => ?_
  refine At.block ?_
  refine At.loop3 (fun (y : List UInt8) (f2 : Nat) (Hc2 : List Seg) => [(0, .func (.yield lp) #[] #[]), (1, .pointer (some ⟨bn, 0, none⟩))]) (fun (y : List UInt8) (f2 : Nat) (Hc2 : List Seg) => [(bn, .cells #[str y] 9 (0, 0))] :: (Hc2 ++ T)) (fun (y : List UInt8) (f2 : Nat) (Hc2 : List Seg) => y.length ≤ f2 ∧ J f2 Hc2 ∧ y.length ≤ n.length) (fun (y : List UInt8) (f2 : Nat) (Hc2 : List Seg) => y.length) n n.length Hc (⟨Nat.le_refl _, h0, Nat.le_refl _⟩) ⟨rfl, rfl, trivial⟩ rfl ?_
  rintro y f2 Hc2 ⟨hyf, hJ, hyn⟩ ihL1
  refine At.block ?_
  refine At.seq ?_
  refine At.seq ?_
  refine At.region ?_
  refine AtL.load tf_flat9 (.inl rfl) rfl rfl (Cell.own 0 0 rfl rfl rfl) ?_
  refine AtL.eqs (a := y) (b := [0]) (.inl rfl) rfl rfl rfl ?_
  refine AtL.done ?_
  refine At.cond rfl ?_ ?_
  · intro hc1
    have hc1 : y = [0] := of_decide_eq_true hc1
    exact At.ret Tryd.func72 rfl rfl (⟨true, f2, y, Hc2, fun _ => hJ, fun h => (by cases h), rfl, rfl⟩)
  · intro hc1
    have hc1 : ¬ (y = [0]) := of_decide_eq_false hc1
    refine At.skip ?_
    refine At.seq ?_
    refine At.seq ?_
    rcases Nat.eq_zero_or_pos y.length with hl0 | hl0
    · skip
      refine At.draw (es := []) (pv := [(0, str y), (1, .int .i64 (y.length : Int)), (2, .bool true), (3, .bool true), (4, undef), (5, undef), (6, undef), (7, .bool true), (8, .bool true), (9, undef), (10, undef), (11, undef), (12, .bool true), (13, .bool true), (14, undef), (15, undef), (16, undef), (17, undef), (18, undef), (19, undef), (20, .bool true)]) tf_mixed (by kernel_rfl) (by kernel_rfl) (by kernel_rfl) ?_
      refine ⟨⟨.inr ⟨_, rfl, rfl, .inl ⟨rfl, Do.load tf_flat9 rfl (Cell.own 0 0 rfl rfl rfl)⟩⟩, .inr ⟨_, rfl, rfl, .inl ⟨rfl, Do.lenS (l := y) Tryd.underlying9 rfl⟩⟩, .inr ⟨_, rfl, rfl, .inl ⟨rfl, Do.asBool (Do.eqi rfl rfl) (decide_eq_true (by omega))⟩⟩, .inr ⟨_, rfl, rfl, .inl ⟨rfl, Do.move rfl⟩⟩, .inr ⟨_, rfl, rfl, .inr ⟨⟨_, _, _, rfl, rfl, rfl, rfl⟩, rfl⟩⟩, .inr ⟨_, rfl, rfl, .inr ⟨⟨_, _, _, rfl, rfl, rfl, rfl⟩, rfl⟩⟩, .inr ⟨_, rfl, rfl, .inr ⟨⟨_, _, _, rfl, rfl, rfl, rfl⟩, rfl⟩⟩, .inr ⟨_, rfl, rfl, .inl ⟨rfl, Do.pickT rfl rfl⟩⟩, .inr ⟨_, rfl, rfl, .inl ⟨rfl, Do.move rfl⟩⟩, .inr ⟨_, rfl, rfl, .inr ⟨⟨_, _, _, rfl, rfl, rfl, rfl⟩, rfl⟩⟩, .inr ⟨_, rfl, rfl, .inr ⟨⟨_, _, _, rfl, rfl, rfl, rfl⟩, rfl⟩⟩, .inr ⟨_, rfl, rfl, .inr ⟨⟨_, _, _, rfl, rfl, rfl, rfl⟩, rfl⟩⟩, .inr ⟨_, rfl, rfl, .inl ⟨rfl, Do.pickT rfl rfl⟩⟩, .inr ⟨_, rfl, rfl, .inl ⟨rfl, Do.move rfl⟩⟩, .inr ⟨_, rfl, rfl, .inr ⟨⟨_, _, _, rfl, rfl, rfl, rfl⟩, rfl⟩⟩, .inr ⟨_, rfl, rfl, .inr ⟨⟨_, _, _, rfl, rfl, rfl, rfl⟩, rfl⟩⟩, .inr ⟨_, rfl, rfl, .inr ⟨⟨_, _, _, rfl, rfl, rfl, rfl⟩, rfl⟩⟩, .inr ⟨_, rfl, rfl, .inr ⟨⟨_, _, _, rfl, rfl, rfl, rfl⟩, rfl⟩⟩, .inr ⟨_, rfl, rfl, .inr ⟨⟨_, _, _, rfl, rfl, rfl, rfl⟩, rfl⟩⟩, .inr ⟨_, rfl, rfl, .inr ⟨⟨_, _, _, rfl, rfl, rfl, rfl⟩, rfl⟩⟩, .inr ⟨_, rfl, rfl, .inl ⟨rfl, Do.pickT rfl rfl⟩⟩, trivial⟩, by kernel_rfl, ?_⟩
      refine At.mono (E' := [(0, .func (.yield lp) #[] #[]), (1, .pointer (some ⟨bn, 0, none⟩)), (25, .bool true)]) ⟨rfl, rfl, rfl, trivial⟩ ?_
      refine At.condT rfl ?_
      refine At.seq ?_
      refine At.region ?_
      refine AtL.move (.inl rfl) rfl rfl ?_
      refine AtL.yield (.inl rfl) rfl rfl rfl (y_in (fun T' => hF f2 Hc2 hJ T')) ?_
      rintro _ _ ⟨bb, Hc3, rfl, rfl, hJ3, hK3⟩
      refine AtL.done ?_
      exact At.ret Tryd.func72 rfl rfl (⟨bb, f2, y, Hc3, fun h => hJ3 h, fun h => hK3 h, rfl, rfl⟩)
    · skip
      have hu0 := (y.getD 0 0).toNat_lt
      rcases Decidable.em ((y.getD 0 0).toNat = 0) with hz | hz
      · skip
        refine At.draw (es := []) (pv := [(0, str y), (1, .int .i64 (y.length : Int)), (2, .bool false), (3, .bool false), (4, str y), (5, .int .u8 ((y.getD 0 0).toNat : Int)), (6, .bool true), (7, .bool true), (8, .bool true), (9, undef), (10, undef), (11, undef), (12, .bool true), (13, .bool true), (14, undef), (15, undef), (16, undef), (17, undef), (18, undef), (19, undef), (20, .bool true)]) tf_mixed (by kernel_rfl) (by kernel_rfl) (by kernel_rfl) ?_
        refine ⟨⟨.inr ⟨_, rfl, rfl, .inl ⟨rfl, Do.load tf_flat9 rfl (Cell.own 0 0 rfl rfl rfl)⟩⟩, .inr ⟨_, rfl, rfl, .inl ⟨rfl, Do.lenS (l := y) Tryd.underlying9 rfl⟩⟩, .inr ⟨_, rfl, rfl, .inl ⟨rfl, Do.asBool (Do.eqi rfl rfl) (decide_eq_false (by omega))⟩⟩, .inr ⟨_, rfl, rfl, .inl ⟨rfl, Do.move rfl⟩⟩, .inr ⟨_, rfl, rfl, .inl ⟨⟨_, _, _, rfl, rfl, rfl, rfl⟩, Do.load tf_flat9 rfl (Cell.own 0 0 rfl rfl rfl)⟩⟩, .inr ⟨_, rfl, rfl, .inl ⟨⟨_, _, _, rfl, rfl, rfl, rfl⟩, Do.indexS (l := y) 0 rfl (by omega) Tryd.underlying9 rfl rfl⟩⟩, .inr ⟨_, rfl, rfl, .inl ⟨⟨_, _, _, rfl, rfl, rfl, rfl⟩, Do.asBool (Do.eqi rfl rfl) (decide_eq_true (by omega))⟩⟩, .inr ⟨_, rfl, rfl, .inl ⟨rfl, Do.pickF rfl rfl⟩⟩, .inr ⟨_, rfl, rfl, .inl ⟨rfl, Do.move rfl⟩⟩, .inr ⟨_, rfl, rfl, .inr ⟨⟨_, _, _, rfl, rfl, rfl, rfl⟩, rfl⟩⟩, .inr ⟨_, rfl, rfl, .inr ⟨⟨_, _, _, rfl, rfl, rfl, rfl⟩, rfl⟩⟩, .inr ⟨_, rfl, rfl, .inr ⟨⟨_, _, _, rfl, rfl, rfl, rfl⟩, rfl⟩⟩, .inr ⟨_, rfl, rfl, .inl ⟨rfl, Do.pickT rfl rfl⟩⟩, .inr ⟨_, rfl, rfl, .inl ⟨rfl, Do.move rfl⟩⟩, .inr ⟨_, rfl, rfl, .inr ⟨⟨_, _, _, rfl, rfl, rfl, rfl⟩, rfl⟩⟩, .inr ⟨_, rfl, rfl, .inr ⟨⟨_, _, _, rfl, rfl, rfl, rfl⟩, rfl⟩⟩, .inr ⟨_, rfl, rfl, .inr ⟨⟨_, _, _, rfl, rfl, rfl, rfl⟩, rfl⟩⟩, .inr ⟨_, rfl, rfl, .inr ⟨⟨_, _, _, rfl, rfl, rfl, rfl⟩, rfl⟩⟩, .inr ⟨_, rfl, rfl, .inr ⟨⟨_, _, _, rfl, rfl, rfl, rfl⟩, rfl⟩⟩, .inr ⟨_, rfl, rfl, .inr ⟨⟨_, _, _, rfl, rfl, rfl, rfl⟩, rfl⟩⟩, .inr ⟨_, rfl, rfl, .inl ⟨rfl, Do.pickT rfl rfl⟩⟩, trivial⟩, by kernel_rfl, ?_⟩
        refine At.mono (E' := [(0, .func (.yield lp) #[] #[]), (1, .pointer (some ⟨bn, 0, none⟩)), (25, .bool true)]) ⟨rfl, rfl, rfl, trivial⟩ ?_
        refine At.condT rfl ?_
        refine At.seq ?_
        refine At.region ?_
        refine AtL.move (.inl rfl) rfl rfl ?_
        refine AtL.yield (.inl rfl) rfl rfl rfl (y_in (fun T' => hF f2 Hc2 hJ T')) ?_
        rintro _ _ ⟨bb, Hc3, rfl, rfl, hJ3, hK3⟩
        refine AtL.done ?_
        exact At.ret Tryd.func72 rfl rfl (⟨bb, f2, y, Hc3, fun h => hJ3 h, fun h => hK3 h, rfl, rfl⟩)
      · skip
        rcases Decidable.em (63 < (y.getD 0 0).toNat) with hm | hm
        · skip
          refine At.draw (es := []) (pv := [(0, str y), (1, .int .i64 (y.length : Int)), (2, .bool false), (3, .bool false), (4, str y), (5, .int .u8 ((y.getD 0 0).toNat : Int)), (6, .bool false), (7, .bool false), (8, .bool false), (9, str y), (10, .int .u8 ((y.getD 0 0).toNat : Int)), (11, .bool true), (12, .bool true), (13, .bool true), (14, undef), (15, undef), (16, undef), (17, undef), (18, undef), (19, undef), (20, .bool true)]) tf_mixed (by kernel_rfl) (by kernel_rfl) (by kernel_rfl) ?_
          refine ⟨⟨.inr ⟨_, rfl, rfl, .inl ⟨rfl, Do.load tf_flat9 rfl (Cell.own 0 0 rfl rfl rfl)⟩⟩, .inr ⟨_, rfl, rfl, .inl ⟨rfl, Do.lenS (l := y) Tryd.underlying9 rfl⟩⟩, .inr ⟨_, rfl, rfl, .inl ⟨rfl, Do.asBool (Do.eqi rfl rfl) (decide_eq_false (by omega))⟩⟩, .inr ⟨_, rfl, rfl, .inl ⟨rfl, Do.move rfl⟩⟩, .inr ⟨_, rfl, rfl, .inl ⟨⟨_, _, _, rfl, rfl, rfl, rfl⟩, Do.load tf_flat9 rfl (Cell.own 0 0 rfl rfl rfl)⟩⟩, .inr ⟨_, rfl, rfl, .inl ⟨⟨_, _, _, rfl, rfl, rfl, rfl⟩, Do.indexS (l := y) 0 rfl (by omega) Tryd.underlying9 rfl rfl⟩⟩, .inr ⟨_, rfl, rfl, .inl ⟨⟨_, _, _, rfl, rfl, rfl, rfl⟩, Do.asBool (Do.eqi rfl rfl) (decide_eq_false (by omega))⟩⟩, .inr ⟨_, rfl, rfl, .inl ⟨rfl, Do.pickF rfl rfl⟩⟩, .inr ⟨_, rfl, rfl, .inl ⟨rfl, Do.move rfl⟩⟩, .inr ⟨_, rfl, rfl, .inl ⟨⟨_, _, _, rfl, rfl, rfl, rfl⟩, Do.load tf_flat9 rfl (Cell.own 0 0 rfl rfl rfl)⟩⟩, .inr ⟨_, rfl, rfl, .inl ⟨⟨_, _, _, rfl, rfl, rfl, rfl⟩, Do.indexS (l := y) 0 rfl (by omega) Tryd.underlying9 rfl rfl⟩⟩, .inr ⟨_, rfl, rfl, .inl ⟨⟨_, _, _, rfl, rfl, rfl, rfl⟩, Do.asBool (Do.gtr rfl rfl) (decide_eq_true (by omega))⟩⟩, .inr ⟨_, rfl, rfl, .inl ⟨rfl, Do.pickF rfl rfl⟩⟩, .inr ⟨_, rfl, rfl, .inl ⟨rfl, Do.move rfl⟩⟩, .inr ⟨_, rfl, rfl, .inr ⟨⟨_, _, _, rfl, rfl, rfl, rfl⟩, rfl⟩⟩, .inr ⟨_, rfl, rfl, .inr ⟨⟨_, _, _, rfl, rfl, rfl, rfl⟩, rfl⟩⟩, .inr ⟨_, rfl, rfl, .inr ⟨⟨_, _, _, rfl, rfl, rfl, rfl⟩, rfl⟩⟩, .inr ⟨_, rfl, rfl, .inr ⟨⟨_, _, _, rfl, rfl, rfl, rfl⟩, rfl⟩⟩, .inr ⟨_, rfl, rfl, .inr ⟨⟨_, _, _, rfl, rfl, rfl, rfl⟩, rfl⟩⟩, .inr ⟨_, rfl, rfl, .inr ⟨⟨_, _, _, rfl, rfl, rfl, rfl⟩, rfl⟩⟩, .inr ⟨_, rfl, rfl, .inl ⟨rfl, Do.pickT rfl rfl⟩⟩, trivial⟩, by kernel_rfl, ?_⟩
          refine At.mono (E' := [(0, .func (.yield lp) #[] #[]), (1, .pointer (some ⟨bn, 0, none⟩)), (25, .bool true)]) ⟨rfl, rfl, rfl, trivial⟩ ?_
          refine At.condT rfl ?_
          refine At.seq ?_
          refine At.region ?_
          refine AtL.move (.inl rfl) rfl rfl ?_
          refine AtL.yield (.inl rfl) rfl rfl rfl (y_in (fun T' => hF f2 Hc2 hJ T')) ?_
          rintro _ _ ⟨bb, Hc3, rfl, rfl, hJ3, hK3⟩
          refine AtL.done ?_
          exact At.ret Tryd.func72 rfl rfl (⟨bb, f2, y, Hc3, fun h => hJ3 h, fun h => hK3 h, rfl, rfl⟩)
        · skip
          obtain ⟨f, rfl⟩ : ∃ f, f2 = f + 1 := ⟨f2 - 1, by omega⟩
          have hB1 := u8_le (y.getD 0 0)
          refine At.draw (es := []) (pv := [(0, str y), (1, .int .i64 (y.length : Int)), (2, .bool false), (3, .bool false), (4, str y), (5, .int .u8 ((y.getD 0 0).toNat : Int)), (6, .bool false), (7, .bool false), (8, .bool false), (9, str y), (10, .int .u8 ((y.getD 0 0).toNat : Int)), (11, .bool false), (12, .bool false), (13, .bool false), (14, str y), (15, .int .u8 ((y.getD 0 0).toNat : Int)), (16, .int .i64 ((y.getD 0 0).toNat : Int)), (17, str y), (18, .int .i64 (y.length : Int)), (19, .bool (decide ((y.length : Int) ≤ ((y.getD 0 0).toNat : Int)))), (20, .bool (decide ((y.length : Int) ≤ ((y.getD 0 0).toNat : Int))))]) tf_mixed (by kernel_rfl) (by kernel_rfl) (by kernel_rfl) ?_
          refine ⟨⟨.inr ⟨_, rfl, rfl, .inl ⟨rfl, Do.load tf_flat9 rfl (Cell.own 0 0 rfl rfl rfl)⟩⟩, .inr ⟨_, rfl, rfl, .inl ⟨rfl, Do.lenS (l := y) Tryd.underlying9 rfl⟩⟩, .inr ⟨_, rfl, rfl, .inl ⟨rfl, Do.asBool (Do.eqi rfl rfl) (decide_eq_false (by omega))⟩⟩, .inr ⟨_, rfl, rfl, .inl ⟨rfl, Do.move rfl⟩⟩, .inr ⟨_, rfl, rfl, .inl ⟨⟨_, _, _, rfl, rfl, rfl, rfl⟩, Do.load tf_flat9 rfl (Cell.own 0 0 rfl rfl rfl)⟩⟩, .inr ⟨_, rfl, rfl, .inl ⟨⟨_, _, _, rfl, rfl, rfl, rfl⟩, Do.indexS (l := y) 0 rfl (by omega) Tryd.underlying9 rfl rfl⟩⟩, .inr ⟨_, rfl, rfl, .inl ⟨⟨_, _, _, rfl, rfl, rfl, rfl⟩, Do.asBool (Do.eqi rfl rfl) (decide_eq_false (by omega))⟩⟩, .inr ⟨_, rfl, rfl, .inl ⟨rfl, Do.pickF rfl rfl⟩⟩, .inr ⟨_, rfl, rfl, .inl ⟨rfl, Do.move rfl⟩⟩, .inr ⟨_, rfl, rfl, .inl ⟨⟨_, _, _, rfl, rfl, rfl, rfl⟩, Do.load tf_flat9 rfl (Cell.own 0 0 rfl rfl rfl)⟩⟩, .inr ⟨_, rfl, rfl, .inl ⟨⟨_, _, _, rfl, rfl, rfl, rfl⟩, Do.indexS (l := y) 0 rfl (by omega) Tryd.underlying9 rfl rfl⟩⟩, .inr ⟨_, rfl, rfl, .inl ⟨⟨_, _, _, rfl, rfl, rfl, rfl⟩, Do.asBool (Do.gtr rfl rfl) (decide_eq_false (by omega))⟩⟩, .inr ⟨_, rfl, rfl, .inl ⟨rfl, Do.pickF rfl rfl⟩⟩, .inr ⟨_, rfl, rfl, .inl ⟨rfl, Do.move rfl⟩⟩, .inr ⟨_, rfl, rfl, .inl ⟨⟨_, _, _, rfl, rfl, rfl, rfl⟩, Do.load tf_flat9 rfl (Cell.own 0 0 rfl rfl rfl)⟩⟩, .inr ⟨_, rfl, rfl, .inl ⟨⟨_, _, _, rfl, rfl, rfl, rfl⟩, Do.indexS (l := y) 0 rfl (by omega) Tryd.underlying9 rfl rfl⟩⟩, .inr ⟨_, rfl, rfl, .inl ⟨⟨_, _, _, rfl, rfl, rfl, rfl⟩, Do.convInt (z := ((y.getD 0 0).toNat : Int)) Tryd.underlying5 Tryd.underlying3 rfl (u8_i64 _)⟩⟩, .inr ⟨_, rfl, rfl, .inl ⟨⟨_, _, _, rfl, rfl, rfl, rfl⟩, Do.load tf_flat9 rfl (Cell.own 0 0 rfl rfl rfl)⟩⟩, .inr ⟨_, rfl, rfl, .inl ⟨⟨_, _, _, rfl, rfl, rfl, rfl⟩, Do.lenS (l := y) Tryd.underlying9 rfl⟩⟩, .inr ⟨_, rfl, rfl, .inl ⟨⟨_, _, _, rfl, rfl, rfl, rfl⟩, Do.geq rfl rfl⟩⟩, .inr ⟨_, rfl, rfl, .inl ⟨rfl, Do.pickF rfl rfl⟩⟩, trivial⟩, by kernel_rfl, ?_⟩
          refine At.mono (E' := [(0, .func (.yield lp) #[] #[]), (1, .pointer (some ⟨bn, 0, none⟩)), (25, .bool (decide ((y.length : Int) ≤ ((y.getD 0 0).toNat : Int))))]) ⟨rfl, rfl, rfl, trivial⟩ ?_
          refine At.cond rfl ?_ ?_
          · intro hc2
            have hc2 : (y.length : Int) ≤ ((y.getD 0 0).toNat : Int) := of_decide_eq_true hc2
            refine At.seq ?_
            refine At.region ?_
            refine AtL.move (.inl rfl) rfl rfl ?_
            refine AtL.yield (.inl rfl) rfl rfl rfl (y_in (fun T' => hF (f + 1) Hc2 hJ T')) ?_
            rintro _ _ ⟨bb, Hc3, rfl, rfl, hJ3, hK3⟩
            refine AtL.done ?_
            exact At.ret Tryd.func72 rfl rfl (⟨bb, (f + 1), y, Hc3, fun h => hJ3 h, fun h => hK3 h, rfl, rfl⟩)
          · intro hc2
            have hc2 : ¬ ((y.length : Int) ≤ ((y.getD 0 0).toNat : Int)) := of_decide_eq_false hc2
            refine At.skip ?_
            refine At.seq ?_
            refine At.seq ?_
            have hB2 := u8_le (y.getD 0 0)
            refine At.draw (es := [7]) (pv := [(0, .func (.yield lp) #[] #[]), (1, str y), (2, str y), (3, .int .u8 ((y.getD 0 0).toNat : Int)), (4, .int .i64 ((y.getD 0 0).toNat : Int)), (5, .int .i64 (1 + ((y.getD 0 0).toNat : Int))), (6, str (subl y 1 (1 + ((y.getD 0 0).toNat))))]) tf_mixed (by kernel_rfl) (by kernel_rfl) (by kernel_rfl) ?_
            refine ⟨⟨.inr ⟨_, rfl, rfl, .inl ⟨rfl, Do.move rfl⟩⟩, .inr ⟨_, rfl, rfl, .inl ⟨rfl, Do.load tf_flat9 rfl (Cell.own 0 0 rfl rfl rfl)⟩⟩, .inr ⟨_, rfl, rfl, .inl ⟨rfl, Do.load tf_flat9 rfl (Cell.own 0 0 rfl rfl rfl)⟩⟩, .inr ⟨_, rfl, rfl, .inl ⟨rfl, Do.indexS (l := y) 0 rfl (by omega) Tryd.underlying9 rfl rfl⟩⟩, .inr ⟨_, rfl, rfl, .inl ⟨rfl, Do.convInt (z := ((y.getD 0 0).toNat : Int)) Tryd.underlying5 Tryd.underlying3 rfl (u8_i64 _)⟩⟩, .inr ⟨_, rfl, rfl, .inl ⟨rfl, Do.add (z := 1 + ((y.getD 0 0).toNat : Int)) rfl rfl (w64 (by omega) (by omega))⟩⟩, .inr ⟨_, rfl, rfl, .inl ⟨rfl, Do.sliceS (l := y) 1 (1 + ((y.getD 0 0).toNat)) (evBound_some rfl rfl) (evBound_some rfl rfl) (by omega) (by omega) Tryd.underlying9 rfl⟩⟩, trivial⟩, rfl, rfl, by kernel_rfl, _, rfl, rfl, rfl, _, Do.yield rfl rfl (y_in (fun T' => hY (subl y 1 (1 + ((y.getD 0 0).toNat))) f Hc2 (by rw [subl_len (by omega)]; omega) hJ T')), ?_⟩
            rintro _ _ ⟨bb, Hc3, rfl, rfl, hJ3, hK3⟩
            refine ⟨[(8, .bool (!bb))], rfl, ?_⟩
            refine ⟨⟨.inr ⟨_, rfl, rfl, .inl ⟨rfl, Do.not rfl⟩⟩, .inl (by kernel_rfl), .inl (by kernel_rfl), .inl (by kernel_rfl), .inl (by kernel_rfl), .inl (by kernel_rfl), .inl (by kernel_rfl), .inl (by kernel_rfl), trivial⟩, by kernel_rfl, ?_⟩
            refine At.mono (E' := [(0, .func (.yield lp) #[] #[]), (1, .pointer (some ⟨bn, 0, none⟩)), (36, .bool (!bb))]) ⟨rfl, rfl, rfl, trivial⟩ ?_
            refine At.cond rfl ?_ ?_
            · intro hc3
              have hc3 : bb = false := bnot_true hc3
              exact At.ret Tryd.func72 rfl rfl (⟨false, 0, y, Hc3, fun h => (by cases h), fun _ => hK3 (by simpa using hc3), rfl, rfl⟩)
            · intro hc3
              have hc3 : bb = true := bnot_false hc3
              refine At.skip ?_
              have hB3 := u8_le (y.getD 0 0)
              refine At.draw (es := [6]) (pv := [(0, str y), (1, str y), (2, .int .u8 ((y.getD 0 0).toNat : Int)), (3, .int .i64 ((y.getD 0 0).toNat : Int)), (4, .int .i64 (1 + ((y.getD 0 0).toNat : Int))), (5, str (subl y (1 + ((y.getD 0 0).toNat)) y.length))]) tf_mixed (by kernel_rfl) (by kernel_rfl) (by kernel_rfl) ?_
              refine ⟨⟨.inr ⟨_, rfl, rfl, .inl ⟨rfl, Do.load tf_flat9 rfl (Cell.own 0 0 rfl rfl rfl)⟩⟩, .inr ⟨_, rfl, rfl, .inl ⟨rfl, Do.load tf_flat9 rfl (Cell.own 0 0 rfl rfl rfl)⟩⟩, .inr ⟨_, rfl, rfl, .inl ⟨rfl, Do.indexS (l := y) 0 rfl (by omega) Tryd.underlying9 rfl rfl⟩⟩, .inr ⟨_, rfl, rfl, .inl ⟨rfl, Do.convInt (z := ((y.getD 0 0).toNat : Int)) Tryd.underlying5 Tryd.underlying3 rfl (u8_i64 _)⟩⟩, .inr ⟨_, rfl, rfl, .inl ⟨rfl, Do.add (z := 1 + ((y.getD 0 0).toNat : Int)) rfl rfl (w64 (by omega) (by omega))⟩⟩, .inr ⟨_, rfl, rfl, .inl ⟨rfl, Do.sliceS (l := y) (1 + ((y.getD 0 0).toNat)) y.length (evBound_some rfl rfl) rfl (by omega) (by omega) Tryd.underlying9 rfl⟩⟩, trivial⟩, rfl, rfl, by kernel_rfl, _, rfl, rfl, rfl, _, Do.store (H' := [(bn, .cells #[str (subl y (1 + ((y.getD 0 0).toNat)) y.length)] 9 (0, 0))] :: (Hc3 ++ T)) 0 0 tf_sz9 rfl rfl rfl rfl rfl rfl rfl rfl rfl, ?_⟩
              rintro _ _ ⟨rfl, rfl⟩
              refine ⟨[], rfl, ?_⟩
              refine ⟨⟨.inl (by kernel_rfl), .inl (by kernel_rfl), .inl (by kernel_rfl), .inl (by kernel_rfl), .inl (by kernel_rfl), .inl (by kernel_rfl), trivial⟩, by kernel_rfl, ?_⟩
              refine At.mono (E' := [(0, .func (.yield lp) #[] #[]), (1, .pointer (some ⟨bn, 0, none⟩))]) ⟨rfl, rfl, trivial⟩ ?_
              refine At.inBlock ?_
              refine ihL1 (subl y (1 + ((y.getD 0 0).toNat)) y.length) f Hc3 (⟨by rw [subl_len (by omega)]; omega, hJ3 (by simpa using hc3), by rw [subl_len (by omega)]; omega⟩) (by rw [subl_len (by omega)]; omega) _ ?_
              exact ⟨rfl, rfl, trivial⟩

set_option maxHeartbeats 400000 in
theorem all_ok6 {w0 : World} {base : Nat} {H : List Seg} (n : List UInt8) :
    SCalls Tryd.prog 71 [str n] w0 base (H) (fun v H' => ∃ bn : Nat, v = .func (.func 72) #[] #[.pointer (some ⟨bn, 0, none⟩)] ∧ H' = [(bn, .cells #[str n] 9 (0, 0))] :: H) := by
  refine SCalls.of_walk (n := 4) Tryd.func71 rfl rfl rfl fun cs => ?_
  refine At.seq ?_
  refine At.region ?_
  refine AtL.box (cs := #[str n]) rfl (.inl rfl) rfl rfl ?_
  intro b1
  refine AtL.assign (.inl rfl) rfl rfl ?_
  refine AtL.done ?_
  refine At.seq ?_
  refine At.region ?_
  refine AtL.makeFunc (.inl rfl) rfl rfl rfl ?_
  refine AtL.assign (.inl rfl) rfl rfl ?_
  refine AtL.done ?_
  exact At.ret Tryd.func71 rfl rfl (⟨b1, rfl, rfl⟩)

set_option maxHeartbeats 400000 in
theorem labels_ok {w0 : World} {base : Nat} {H : List Seg} (n : List UInt8) (hn : n.length ≤ 65535) :
    SCalls Tryd.prog 70 [str n] w0 base (H) (fun v H' => ∃ (v0 : Value) (e : Int), v = .tuple #[v0, int e] ∧ H' = H) := by
  refine SCalls.of_walk (n := 21) Tryd.func70 rfl rfl rfl fun cs => ?_
  refine At.seq ?_
  refine At.region ?_
  refine AtL.alloc tf_zero23 (cs := #[.slice none 0 0]) rfl (.inl rfl) rfl ?_
  intro b1
  refine AtL.alloc tf_zero70 (cs := #[.int .i64 0]) rfl (.inl rfl) rfl ?_
  intro b2
  refine AtL.done ?_
  refine At.seq ?_
  refine At.region ?_
  refine AtL.alloc tf_zero23 (cs := #[.slice none 0 0]) rfl (.inl rfl) rfl ?_
  intro b3
  refine AtL.done ?_
  refine At.seq ?_
  refine At.seq ?_
  refine At.region ?_
  refine AtL.move (.inl rfl) rfl rfl ?_
  refine AtL.call tf_body71 (.inl rfl) rfl rfl (all_ok6 n) ?_
  rintro _ _ ⟨bn4, rfl, rfl⟩
  refine AtL.done ?_
  refine At.block ?_
  refine At.nil ?_
  refine At.pick (H' := [(bn4, .cells #[str n] 9 (0, 0))] :: [] :: [(b3, .cells #[.slice none 0 0] 23 (0, 0))] :: [(b1, .cells #[.slice none 0 0] 23 (0, 0))] :: [(b2, .cells #[.int .i64 0] 70 (0, 0))] :: H) [1, 0, 2, 4, 3] 5 rfl rfl ?_
  refine At.rangeF (R := (fun L lp rr v H' => ∃ (b : Bool) (y : List UInt8) (A : Option Addr) (C : Nat) (l : List (List UInt8)) (so : Seg) (L' : Loop) (e : Int), Own tyS 9 A C l so ∧ (b = true → L' = L) ∧ (b = false → L' = leftL L .ret) ∧ H' = [(bn4, .cells #[str y] 9 (0, 0))] :: [(lp, .loop L')] :: [(rr, .deferred (some []))] :: so :: [(b3, .cells #[.slice A l.length C] 23 (0, 0))] :: [(b1, .cells #[.slice none 0 0] 23 (0, 0))] :: [(b2, .cells #[.int .i64 e] 70 (0, 0))] :: H)) rfl tf_body72 rfl (fun lp => rfl) (fun L lp rr hL => ?_) (fun L lp rr v H1 hL hR => ?_)
  · skip
    refine SCalls.pick (H' := [(bn4, .cells #[str n] 9 (0, 0))] :: [(lp, .loop L)] :: [(rr, .deferred (some []))] :: [] :: [(b3, .cells #[.slice none 0 0] 23 (0, 0))] :: [(b1, .cells #[.slice none 0 0] 23 (0, 0))] :: [(b2, .cells #[.int .i64 0] 70 (0, 0))] :: H) [2, 0, 1, 3, 4, 5, 6] 7 rfl rfl ?_
    refine SCalls.mono (all1_ok (n := n) (T := H) (Hc := [[(lp, .loop L)], [(rr, .deferred (some []))], [], [(b3, .cells #[.slice none 0 0] 23 (0, 0))], [(b1, .cells #[.slice none 0 0] 23 (0, 0))], [(b2, .cells #[.int .i64 0] 70 (0, 0))]]) (J := (fun f Hc => ∃ (A : Option Addr) (C : Nat) (l : List (List UInt8)) (so : Seg), Own tyS 9 A C l so ∧ l.length + f ≤ n.length ∧ Hc = [[(lp, .loop L)], [(rr, .deferred (some []))], so, [(b3, .cells #[.slice A l.length C] 23 (0, 0))], [(b1, .cells #[.slice none 0 0] 23 (0, 0))], [(b2, .cells #[.int .i64 0] 70 (0, 0))]])) (K := (fun Hc => ∃ (A : Option Addr) (C : Nat) (l : List (List UInt8)) (so : Seg), Own tyS 9 A C l so ∧ Hc = [[(lp, .loop (leftL L .ret))], [(rr, .deferred (some []))], so, [(b3, .cells #[.slice A l.length C] 23 (0, 0))], [(b1, .cells #[.slice none 0 0] 23 (0, 0))], [(b2, .cells #[.int .i64 4] 70 (0, 0))]])) hn (fun u f Hc hul hJ T' => ?_) (fun f Hc hJ T' => ?_) ⟨none, 0, [], [], Own.nil tyS 9, by simp, rfl⟩) (fun v H' hp => ?_)
    · skip
      obtain ⟨A, C, l, so, o, hlf, rfl⟩ := hJ
      have hcapo := Own.cap_le o
      refine YCalls.walkL hL (i := 0) (j := 0) rfl rfl rfl rfl rfl (fun c cs => ?_)
      refine At.seq ?_
      refine At.region ?_
      refine AtL.assign (.inl rfl) rfl rfl ?_
      refine AtL.done ?_
      refine At.region ?_
      refine AtL.assign (.inl rfl) rfl rfl ?_
      refine AtL.done ?_
      refine At.beginL 0 0 hL rfl rfl rfl rfl ?_
      refine At.block ?_
      refine At.seq ?_
      refine At.seq ?_
      refine At.region ?_
      refine AtL.move (.inl rfl) rfl rfl ?_
      refine AtL.not (.inl rfl) rfl rfl ?_
      refine AtL.done ?_
      refine At.condF rfl ?_
      refine At.skip ?_
      refine At.region ?_
      refine AtL.load tf_flat23 (.inl rfl) rfl rfl (Cell.own 3 0 rfl rfl rfl) ?_
      refine AtL.move (.inl rfl) rfl rfl ?_
      refine AtL.buildSlice (cs := [str u]) Tryd.underlying23 tf_zero9 tf_sz9 rfl rfl (.inl rfl) rfl rfl rfl ?_
      intro b5
      refine AtL.own1 tyS (l := ([u] : List (List UInt8))) rfl rfl (by first | decide | simp) ?_
      intro s6 o7
      refine AtL.append (l := l) (news := [u]) 3 tf_el23 rfl o (o7.rd (i := 0) rfl) (by first | omega | (simp only [List.length_append, List.length_cons, List.length_nil]; omega) | (simp; done) | (simp; omega)) (.inl rfl) rfl rfl rfl ?_
      intro A8 C9 s10 o11
      refine AtL.store (H' := s6 :: [(lp, .loop (busyL L))] :: [(rr, .deferred (some []))] :: s10 :: [(b3, .cells #[.slice A8 (l ++ [u]).length C9] 23 (0, 0))] :: [(b1, .cells #[.slice none 0 0] 23 (0, 0))] :: [(b2, .cells #[.int .i64 0] 70 (0, 0))] :: T') 4 0 tf_sz23 (.inl rfl) rfl rfl rfl rfl rfl rfl rfl rfl rfl ?_
      refine AtL.done ?_
      refine At.inBlock ?_
      refine At.pick (H' := [(lp, .loop (busyL L))] :: [(rr, .deferred (some []))] :: s10 :: [(b3, .cells #[.slice A8 (l ++ [u]).length C9] 23 (0, 0))] :: [(b1, .cells #[.slice none 0 0] 23 (0, 0))] :: [(b2, .cells #[.int .i64 0] 70 (0, 0))] :: T') [1, 2, 3, 4, 5, 6] 7 rfl rfl ?_
      exact At.roundEndL 0 0 hL rfl rfl rfl (⟨true, [[(lp, .loop L)], [(rr, .deferred (some []))], s10, [(b3, .cells #[.slice A8 (l ++ [u]).length C9] 23 (0, 0))], [(b1, .cells #[.slice none 0 0] 23 (0, 0))], [(b2, .cells #[.int .i64 0] 70 (0, 0))]], rfl, rfl, fun _ => ⟨_, _, _, _, o11, by simp only [List.length_append, List.length_cons, List.length_nil]; omega, rfl⟩, fun h => (by cases h)⟩)
    · skip
      obtain ⟨A, C, l, so, o, hlf, rfl⟩ := hJ
      have hcapo := Own.cap_le o
      refine YCalls.walkL hL (i := 0) (j := 0) rfl rfl rfl rfl rfl (fun c cs => ?_)
      refine At.seq ?_
      refine At.region ?_
      refine AtL.assign (.inl rfl) rfl rfl ?_
      refine AtL.done ?_
      refine At.region ?_
      refine AtL.assign (.inl rfl) rfl rfl ?_
      refine AtL.done ?_
      refine At.beginL 0 0 hL rfl rfl rfl rfl ?_
      refine At.block ?_
      refine At.seq ?_
      refine At.seq ?_
      refine At.region ?_
      refine AtL.move (.inl rfl) rfl rfl ?_
      refine AtL.not (.inl rfl) rfl rfl ?_
      refine AtL.done ?_
      refine At.condT rfl ?_
      refine At.seq ?_
      refine At.region ?_
      refine AtL.store (H' := [(lp, .loop (busyL L))] :: [(rr, .deferred (some []))] :: so :: [(b3, .cells #[.slice A l.length C] 23 (0, 0))] :: [(b1, .cells #[.slice none 0 0] 23 (0, 0))] :: [(b2, .cells #[.int .i64 0] 70 (0, 0))] :: T') 4 0 tf_sz23 (.inl rfl) rfl rfl rfl rfl rfl rfl rfl rfl rfl ?_
      refine AtL.store (H' := [(lp, .loop (busyL L))] :: [(rr, .deferred (some []))] :: so :: [(b3, .cells #[.slice A l.length C] 23 (0, 0))] :: [(b1, .cells #[.slice none 0 0] 23 (0, 0))] :: [(b2, .cells #[.int .i64 4] 70 (0, 0))] :: T') 5 0 tf_sz70 (.inl rfl) rfl rfl rfl rfl rfl rfl rfl rfl rfl ?_
      refine AtL.done ?_
      exact At.roundRetL 0 0 rfl rfl rfl (⟨false, [[(lp, .loop (leftL L .ret))], [(rr, .deferred (some []))], so, [(b3, .cells #[.slice A l.length C] 23 (0, 0))], [(b1, .cells #[.slice none 0 0] 23 (0, 0))], [(b2, .cells #[.int .i64 4] 70 (0, 0))]], rfl, rfl, fun h => (by cases h), fun _ => ⟨_, _, _, _, o, rfl⟩⟩)
    · skip
      obtain ⟨b, f, y, Hc', h1, h2, rfl, rfl⟩ := hp
      cases b with
      | true => obtain ⟨A, C, l, so, o, _, rfl⟩ := h1 rfl; exact ⟨true, y, A, C, l, so, L, 0, o, fun _ => rfl, fun h => (by cases h), rfl⟩
      | false => obtain ⟨A, C, l, so, o, rfl⟩ := h2 rfl; exact ⟨false, y, A, C, l, so, leftL L .ret, 4, o, fun h => (by cases h), fun _ => rfl, rfl⟩
  · skip
    obtain ⟨b, y, A, C, l, so, L', e, o, h1, h2, rfl⟩ := hR
    cases b with
    | true =>
      obtain rfl := h1 rfl
      refine ⟨1, 0, _, _, _, rfl, rfl, loop_ready hL, rfl, ?_⟩
      rw [loop_dry hL]
      refine At.inBlock ?_
      refine At.seq ?_
      refine At.seq ?_
      refine At.region ?_
      refine AtL.move (.inl rfl) rfl rfl ?_
      refine AtL.lenS (l := n) Tryd.underlying9 (.inl rfl) rfl rfl ?_
      refine AtL.gtr (.inl rfl) rfl rfl rfl ?_
      refine AtL.done ?_
      refine At.cond rfl ?_ ?_
      · intro hc2
        have hc2 : 255 < (n.length : Int) := of_decide_eq_true hc2
        refine At.seq ?_
        refine At.region ?_
        refine AtL.store (H' := [(bn4, .cells #[str y] 9 (0, 0))] :: [(lp, .loop (overL L'))] :: [(rr, .deferred (some []))] :: so :: [(b3, .cells #[.slice A l.length C] 23 (0, 0))] :: [(b1, .cells #[.slice none 0 0] 23 (0, 0))] :: [(b2, .cells #[.int .i64 e] 70 (0, 0))] :: H) 5 0 tf_sz23 (.inl rfl) rfl rfl rfl rfl rfl rfl rfl rfl rfl ?_
        refine AtL.store (H' := [(bn4, .cells #[str y] 9 (0, 0))] :: [(lp, .loop (overL L'))] :: [(rr, .deferred (some []))] :: so :: [(b3, .cells #[.slice A l.length C] 23 (0, 0))] :: [(b1, .cells #[.slice none 0 0] 23 (0, 0))] :: [(b2, .cells #[.int .i64 3] 70 (0, 0))] :: H) 6 0 tf_sz70 (.inl rfl) rfl rfl rfl rfl rfl rfl rfl rfl rfl ?_
        refine AtL.done ?_
        refine At.retU rfl ?_
        refine Un.collected (i := 2) (j := 0) rfl rfl rfl rfl ?_
        exact Un.leftP (vs := [.slice none 0 0, .int .i64 3]) (H2 := H) [] 7 rfl rfl Tryd.func70 rfl ⟨⟨_, rfl, LoadsTo.flat tf_flat23 (Cell.own 5 0 rfl rfl rfl)⟩, ⟨_, rfl, LoadsTo.flat tf_flat70 (Cell.own 6 0 rfl rfl rfl)⟩, trivial⟩ (⟨_, _, rfl, rfl⟩)
      · intro hc2
        have hc2 : ¬ (255 < (n.length : Int)) := of_decide_eq_false hc2
        refine At.skip ?_
        refine At.seq ?_
        refine At.region ?_
        refine AtL.load tf_flat23 (.inl rfl) rfl rfl (Cell.own 4 0 rfl rfl rfl) ?_
        refine AtL.store (H' := [(bn4, .cells #[str y] 9 (0, 0))] :: [(lp, .loop (overL L'))] :: [(rr, .deferred (some []))] :: so :: [(b3, .cells #[.slice A l.length C] 23 (0, 0))] :: [(b1, .cells #[.slice A l.length C] 23 (0, 0))] :: [(b2, .cells #[.int .i64 e] 70 (0, 0))] :: H) 5 0 tf_sz23 (.inl rfl) rfl rfl rfl rfl rfl rfl rfl rfl rfl ?_
        refine AtL.store (H' := [(bn4, .cells #[str y] 9 (0, 0))] :: [(lp, .loop (overL L'))] :: [(rr, .deferred (some []))] :: so :: [(b3, .cells #[.slice A l.length C] 23 (0, 0))] :: [(b1, .cells #[.slice A l.length C] 23 (0, 0))] :: [(b2, .cells #[.int .i64 0] 70 (0, 0))] :: H) 6 0 tf_sz70 (.inl rfl) rfl rfl rfl rfl rfl rfl rfl rfl rfl ?_
        refine AtL.done ?_
        refine At.retU rfl ?_
        refine Un.collected (i := 2) (j := 0) rfl rfl rfl rfl ?_
        exact Un.leftP (vs := [.slice A l.length C, .int .i64 0]) (H2 := H) [] 7 rfl rfl Tryd.func70 rfl ⟨⟨_, rfl, LoadsTo.flat tf_flat23 (Cell.own 5 0 rfl rfl rfl)⟩, ⟨_, rfl, LoadsTo.flat tf_flat70 (Cell.own 6 0 rfl rfl rfl)⟩, trivial⟩ (⟨_, _, rfl, rfl⟩)
    | false =>
      obtain rfl := h2 rfl
      refine ⟨1, 0, _, _, _, rfl, rfl, loop_left, rfl, ?_⟩
      show At _ (.code .ret :: _) _ _ _
      refine At.retU rfl ?_
      refine Un.collected (i := 2) (j := 0) rfl rfl rfl rfl ?_
      exact Un.leftP (vs := [.slice none 0 0, .int .i64 e]) (H2 := H) [] 7 rfl rfl Tryd.func70 rfl ⟨⟨_, rfl, LoadsTo.flat tf_flat23 (Cell.own 5 0 rfl rfl rfl)⟩, ⟨_, rfl, LoadsTo.flat tf_flat70 (Cell.own 6 0 rfl rfl rfl)⟩, trivial⟩ (⟨_, _, rfl, rfl⟩)

set_option maxHeartbeats 400000 in
theorem ncheck_ok {w0 : World} {base : Nat} {H : List Seg} (n : List UInt8) (hn : n.length ≤ 65535) :
    SCalls Tryd.prog 68 [str n] w0 base (H) (fun v H' => ∃ e : Int, v = int e ∧ H' = H) := by
  refine SCalls.of_walk (n := 11) Tryd.func68 rfl rfl rfl fun cs => ?_
  refine At.seq ?_
  refine At.region ?_
  refine AtL.assign (.inl rfl) rfl rfl ?_
  refine AtL.done ?_
  refine At.seq ?_
  refine At.region ?_
  refine AtL.move (.inl rfl) rfl rfl ?_
  refine AtL.call tf_body70 (.inl rfl) rfl rfl (labels_ok n (by omega)) ?_
  rintro _ _ ⟨v1, e2, rfl, hHq⟩
  obtain rfl := hHq.symm
  refine AtL.move (.inl rfl) rfl rfl ?_
  refine AtL.extract (.inl rfl) rfl rfl rfl ?_
  refine AtL.extract (.inl rfl) rfl rfl rfl ?_
  refine AtL.assign (.inl rfl) rfl rfl ?_
  refine AtL.assign (.inl rfl) rfl rfl ?_
  refine AtL.done ?_
  refine At.seq ?_
  refine At.region ?_
  refine AtL.move (.inl rfl) rfl rfl ?_
  refine AtL.assign (.inl rfl) rfl rfl ?_
  refine AtL.done ?_
  exact At.ret Tryd.func68 rfl rfl (⟨_, rfl, rfl⟩)

end Go.Proofs.YtlkdmbpbjhjkfaaDoor
