/- HeadParses: the walk. -/
import Derived.Test.YtlfkoimkojbghaaDoorS1
namespace Go.Proofs.YtlfkoimkojbghaaDoor
set_option linter.unusedVariables false
set_option linter.unusedSimpArgs false
set_option maxRecDepth 100000

set_option maxHeartbeats 400000 in
theorem headparses_ok {w0 : World} {base : Nat} {H : List Seg} {A : Option Addr} {C : Nat} {b : List UInt8} (h : Rd tyB w0 base H A C b) (T : Tabs w0 base) :
    SCalls Tryd.prog 9 [.slice A b.length C] w0 base (H) (fun v H' => v = .bool true ∧ H' = H) := by
  have hle0 := h.le
  have hcap0 := h.cap
  refine SCalls.of_walk (n := 67) Tryd.func9 rfl rfl rfl fun cs => ?_
  refine At.seq ?_
  refine At.region ?_
  refine AtL.assign (.inl rfl) rfl rfl ?_
  refine AtL.done ?_
  refine At.seq ?_
  refine At.seq ?_
  refine At.region ?_
  refine AtL.move (.inl rfl) rfl rfl ?_
  refine AtL.lenL Tryd.underlying25 (.inl rfl) rfl rfl ?_
  refine AtL.gtr (.inl rfl) rfl rfl rfl ?_
  refine AtL.done ?_
  refine At.cond rfl ?_ ?_
  · intro hc1
    have hc1 : 6000 < (b.length : Int) := of_decide_eq_true hc1
    refine At.seq ?_
    refine At.region ?_
    refine AtL.call tf_body40 (.inl rfl) rfl rfl (awake_ok T) ?_
    rintro _ _ ⟨rfl, hHq⟩
    obtain rfl := hHq.symm
    refine AtL.assign (.inl rfl) rfl rfl ?_
    refine AtL.done ?_
    exact At.ret Tryd.func9 rfl rfl (⟨rfl, rfl⟩)
  · intro hc1
    have hc1 : ¬ (6000 < (b.length : Int)) := of_decide_eq_false hc1
    refine At.skip ?_
    refine At.seq ?_
    refine At.region ?_
    refine AtL.move (.inl rfl) rfl rfl ?_
    refine AtL.call tf_body14 (.inl rfl) rfl rfl (lent_ok (l := b) h (by omega)) ?_
    rintro _ _ ⟨A1, s2, o3, rfl, rfl⟩
    refine AtL.assign (.inl rfl) rfl rfl ?_
    refine AtL.done ?_
    refine At.seq ?_
    refine At.region ?_
    refine AtL.move (.inl rfl) rfl rfl ?_
    refine AtL.call tf_body41 (.inl rfl) rfl rfl (parse_ok (b := b) (OwnR.rd o3 (i := 0) rfl) T) ?_
    rintro _ _ ⟨⟨A4, C5, l6, s7, o8⟩, rfl, hx9, rfl⟩
    obtain rfl : (parseF b).1.fs = l6 := hx9.symm
    refine AtL.move (.inl rfl) rfl rfl ?_
    refine AtL.extract (.inl rfl) rfl rfl rfl ?_
    refine AtL.extract (.inl rfl) rfl rfl rfl ?_
    refine AtL.alloc tf_zero24 (cs := #[str [], str [], .int .i64 0, .slice none 0 0]) rfl (.inl rfl) rfl ?_
    intro b10
    refine AtL.store (H' := [(b10, .cells #[str ((parseF b).1.m), str ((parseF b).1.t), .int .i64 ((parseF b).1.minor), .slice A4 ((parseF b).1.fs).length C5] 24 (0, 0))] :: s7 :: s2 :: H) 0 0 tf_sz24 (.inl rfl) rfl rfl rfl rfl rfl rfl rfl rfl rfl ?_
    refine AtL.assign (.inl rfl) rfl rfl ?_
    refine AtL.done ?_
    refine At.seq ?_
    refine At.region ?_
    refine AtL.move (.inl rfl) rfl rfl ?_
    refine AtL.call tf_body42 (.inl rfl) rfl rfl (rparse_ok (b := b) (Rd.skip 3 h)) ?_
    rintro _ _ ⟨⟨A11, C12, l13, s14, o15⟩, rfl, hx16, rfl⟩
    obtain rfl : (parseF b).1.fs = l13 := hx16.symm
    refine AtL.move (.inl rfl) rfl rfl ?_
    refine AtL.extract (.inl rfl) rfl rfl rfl ?_
    refine AtL.extract (.inl rfl) rfl rfl rfl ?_
    refine AtL.alloc tf_zero24 (cs := #[str [], str [], .int .i64 0, .slice none 0 0]) rfl (.inl rfl) rfl ?_
    intro b17
    refine AtL.store (H' := [(b17, .cells #[str ((parseF b).1.m), str ((parseF b).1.t), .int .i64 ((parseF b).1.minor), .slice A11 ((parseF b).1.fs).length C12] 24 (0, 0))] :: s14 :: [(b10, .cells #[str ((parseF b).1.m), str ((parseF b).1.t), .int .i64 ((parseF b).1.minor), .slice A4 ((parseF b).1.fs).length C5] 24 (0, 0))] :: s7 :: s2 :: H) 0 0 tf_sz24 (.inl rfl) rfl rfl rfl rfl rfl rfl rfl rfl rfl ?_
    refine AtL.assign (.inl rfl) rfl rfl ?_
    refine AtL.done ?_
    refine At.seq ?_
    refine At.region ?_
    refine AtL.move (.inl rfl) rfl rfl ?_
    refine AtL.move (.inl rfl) rfl rfl ?_
    refine AtL.eqi (.inl rfl) rfl rfl rfl ?_
    refine AtL.move (.inl rfl) rfl rfl ?_
    refine AtL.join 4 (E' := [(35, .bool (decide ((⟨(parseF b).1.m, (parseF b).1.t, (parseF b).1.minor, (parseF b).1.fs⟩ : HeadV) = ⟨(parseF b).1.m, (parseF b).1.t, (parseF b).1.minor, (parseF b).1.fs⟩))), (0, .slice A b.length C), (3, .slice A1 b.length (b.length + 3)), (4, .pointer (some ⟨b10, 0, none⟩)), (6, .pointer (some ⟨b17, 0, none⟩))]) (H' := [(b17, .cells #[str ((parseF b).1.m), str ((parseF b).1.t), .int .i64 ((parseF b).1.minor), .slice A11 ((parseF b).1.fs).length C12] 24 (0, 0))] :: s14 :: [(b10, .cells #[str ((parseF b).1.m), str ((parseF b).1.t), .int .i64 ((parseF b).1.minor), .slice A4 ((parseF b).1.fs).length C5] 24 (0, 0))] :: s7 :: s2 :: H) (fun J => ?_) ?_
    · refine AtL.split (t := 31) rfl ?_ ?_
      · intro hs31
        have hs31 : ((parseF b).2 : Int) = ((parseF b).2) := of_decide_eq_true hs31
        refine AtL.loadN (cs := [str ((parseF b).1.m), str ((parseF b).1.t), .int .i64 ((parseF b).1.minor), .slice A4 ((parseF b).1.fs).length C5]) tf_agg24 (.inr ⟨_, _, _, rfl, rfl, rfl, rfl⟩) rfl rfl rfl (cellsOwn 2 0 0 rfl rfl rfl) ?_
        refine AtL.loadN (cs := [str ((parseF b).1.m), str ((parseF b).1.t), .int .i64 ((parseF b).1.minor), .slice A11 ((parseF b).1.fs).length C12]) tf_agg24 (.inr ⟨_, _, _, rfl, rfl, rfl, rfl⟩) rfl rfl rfl (cellsOwn 0 0 0 rfl rfl rfl) ?_
        refine AtL.call tf_body21 (.inr ⟨_, _, _, rfl, rfl, rfl, rfl⟩) rfl rfl (samehead_ok (m := (parseF b).1.m) (t := (parseF b).1.t) (minor := (parseF b).1.minor) (m2 := (parseF b).1.m) (t2 := (parseF b).1.t) (minor2 := (parseF b).1.minor) (fs := (parseF b).1.fs) (gs := (parseF b).1.fs) (o8.rd (i := 3) rfl) (o15.rd (i := 1) rfl)) ?_
        rintro _ _ ⟨rfl, rfl⟩
        refine AtL.pickT (.inl rfl) rfl rfl rfl ?_
        exact J _ (by exact ⟨(boolIs (by clear J; first | (simp [hs31]; done) | (simp_all; done) | grind)), rfl, rfl, rfl, rfl, trivial⟩)
      · intro hs31
        exact Bool.noConfusion (hs31.symm.trans (decide_eq_true rfl))
    · skip
      refine AtL.move (.inl rfl) rfl rfl ?_
      refine AtL.join 4 (E' := [(40, .bool true), (3, .slice A1 b.length (b.length + 3)), (4, .pointer (some ⟨b10, 0, none⟩)), (6, .pointer (some ⟨b17, 0, none⟩))]) (H' := [(b17, .cells #[str ((parseF b).1.m), str ((parseF b).1.t), .int .i64 ((parseF b).1.minor), .slice A11 ((parseF b).1.fs).length C12] 24 (0, 0))] :: s14 :: [(b10, .cells #[str ((parseF b).1.m), str ((parseF b).1.t), .int .i64 ((parseF b).1.minor), .slice A4 ((parseF b).1.fs).length C5] 24 (0, 0))] :: s7 :: s2 :: H) (fun J => ?_) ?_
      · refine AtL.split (t := 36) rfl ?_ ?_
        · intro hs36
          have hs36 : (⟨(parseF b).1.m, (parseF b).1.t, (parseF b).1.minor, (parseF b).1.fs⟩ : HeadV) = ⟨(parseF b).1.m, (parseF b).1.t, (parseF b).1.minor, (parseF b).1.fs⟩ := of_decide_eq_true hs36
          refine AtL.move (.inr ⟨_, _, _, rfl, rfl, rfl, rfl⟩) rfl rfl ?_
          refine AtL.move (.inr ⟨_, _, _, rfl, rfl, rfl, rfl⟩) rfl rfl ?_
          refine AtL.pick (H' := s2 :: [(b17, .cells #[str ((parseF b).1.m), str ((parseF b).1.t), .int .i64 ((parseF b).1.minor), .slice A11 ((parseF b).1.fs).length C12] 24 (0, 0))] :: s14 :: [(b10, .cells #[str ((parseF b).1.m), str ((parseF b).1.t), .int .i64 ((parseF b).1.minor), .slice A4 ((parseF b).1.fs).length C5] 24 (0, 0))] :: s7 :: H) [4, 0, 1, 2, 3] 5 rfl rfl ?_
          refine AtL.call tf_body22 (.inr ⟨_, _, _, rfl, rfl, rfl, rfl⟩) rfl rfl (kept_ok o3 (Rd.skip 4 h) (by omega)) ?_
          rintro _ _ ⟨s18, rfl, rfl⟩
          refine AtL.pickT (.inl rfl) rfl rfl rfl ?_
          refine AtL.pick (H' := [(b17, .cells #[str ((parseF b).1.m), str ((parseF b).1.t), .int .i64 ((parseF b).1.minor), .slice A11 ((parseF b).1.fs).length C12] 24 (0, 0))] :: s14 :: [(b10, .cells #[str ((parseF b).1.m), str ((parseF b).1.t), .int .i64 ((parseF b).1.minor), .slice A4 ((parseF b).1.fs).length C5] 24 (0, 0))] :: s7 :: s2 :: H) [2, 3, 4, 5, 1] 6 rfl rfl ?_
          exact J _ (by exact ⟨rfl, rfl, rfl, rfl, trivial⟩)
        · intro hs36
          exact Bool.noConfusion (hs36.symm.trans (decide_eq_true rfl))
      · skip
        refine AtL.assign (.inl rfl) rfl rfl ?_
        refine AtL.done ?_
        refine At.seq ?_
        refine At.seq ?_
        refine At.region ?_
        refine AtL.assign (.inl rfl) rfl rfl ?_
        refine AtL.done ?_
        refine At.block ?_
        refine At.loop3 (fun (k : Nat) (L : List (List UInt8 × List UInt8)) (sL : Seg) => [(3, .slice A1 b.length (b.length + 3)), (4, .pointer (some ⟨b10, 0, none⟩)), (6, .pointer (some ⟨b17, 0, none⟩)), (8, .bool true), (9, .int .i64 (k : Int))]) (fun (k : Nat) (L : List (List UInt8 × List UInt8)) (sL : Seg) => [(b17, .cells #[str ((parseF b).1.m), str ((parseF b).1.t), .int .i64 ((parseF b).1.minor), .slice A11 ((parseF b).1.fs).length C12] 24 (0, 0))] :: s14 :: [(b10, .cells #[str ((parseF b).1.m), str ((parseF b).1.t), .int .i64 ((parseF b).1.minor), .slice A4 L.length C5] 24 (0, 0))] :: sL :: s2 :: H) (fun (k : Nat) (L : List (List UInt8 × List UInt8)) (sL : Seg) => k ≤ L.length ∧ Own tyField 67 A4 C5 L sL) (fun (k : Nat) (L : List (List UInt8 × List UInt8)) (sL : Seg) => L.length - k) 0 ((parseF b).1.fs) s7 (⟨Nat.zero_le _, o8⟩) ⟨rfl, rfl, rfl, rfl, rfl, trivial⟩ rfl ?_
        rintro k L sL ⟨hk, ho⟩ ihL1
        have hcapL := Own.cap_le ho
        have hleL := Own.le_cap ho
        refine At.seq ?_
        refine At.seq ?_
        refine At.region ?_
        refine AtL.move (.inl rfl) rfl rfl ?_
        refine AtL.fieldAddrB tf_fo24_3 (.inl rfl) rfl rfl rfl ?_
        refine AtL.load tf_flat22 (.inl rfl) rfl rfl (Cell.own 2 0 rfl rfl rfl) ?_
        refine AtL.lenL Tryd.underlying22 (.inl rfl) rfl rfl ?_
        refine AtL.lss (.inl rfl) rfl rfl rfl ?_
        refine AtL.done ?_
        refine At.cond rfl ?_ ?_
        · intro hc2
          have hc2 : (k : Int) < (L.length : Int) := of_decide_eq_true hc2
          refine At.skip ?_
          refine At.seq ?_
          refine At.block ?_
          refine At.region ?_
          refine AtL.fieldAddrB tf_fo24_3 (.inl rfl) rfl rfl rfl ?_
          refine AtL.load tf_flat22 (.inl rfl) rfl rfl (Cell.own 2 0 rfl rfl rfl) ?_
          refine AtL.move (.inl rfl) rfl rfl ?_
          refine AtL.build (cs := [str [], str []]) tf_lay67 (.inl rfl) rfl rfl rfl ?_
          refine AtL.indexL k (ho.rd (i := 3) rfl) Tryd.underlying22 tf_sz67 (.inl rfl) rfl rfl rfl rfl (by omega) ?_
          refine AtL.setIdx (u := ([], [])) 3 k tf_sz67 rfl ho (by omega) (.inl rfl) rfl rfl ?_
          intro s19 o20
          refine AtL.eqH (H' := [(b17, .cells #[str ((parseF b).1.m), str ((parseF b).1.t), .int .i64 ((parseF b).1.minor), .slice A11 ((parseF b).1.fs).length C12] 24 (0, 0))] :: s14 :: [(b10, .cells #[str ((parseF b).1.m), str ((parseF b).1.t), .int .i64 ((parseF b).1.minor), .slice A4 (L.set k ([], [])).length C5] 24 (0, 0))] :: s19 :: s2 :: H) (by first | (rw [show (L.set k ([], [])).length = L.length from (List.length_set)]; done) | (rw [show (L.set k ([], [])).length = L.length from (List.length_set)]; rfl)) ?_
          refine AtL.done ?_
          refine At.inBlock ?_
          refine At.region ?_
          refine AtL.move (.inl rfl) rfl rfl ?_
          refine AtL.add (z := (k : Int) + 1) (.inl rfl) rfl rfl rfl (w64 (by omega) (by omega)) ?_
          refine AtL.assign (.inl rfl) rfl rfl ?_
          refine AtL.done ?_
          refine ihL1 (k + 1) (L.set k ([], [])) s19 (⟨by simp; omega, o20⟩) (by simp; omega) _ ?_
          exact ⟨rfl, rfl, rfl, rfl, (by first | rfl | exact slLen (by simp []) | exact intEq (by omega) | exact intEq (by simp []) | exact slLen (by simp []; omega)), trivial⟩
        · intro hc2
          have hc2 : ¬ ((k : Int) < (L.length : Int)) := of_decide_eq_false hc2
          refine At.exit rfl ?_
          refine At.seq ?_
          refine At.region ?_
          refine AtL.move (.inl rfl) rfl rfl ?_
          refine AtL.call tf_body41 (.inl rfl) rfl rfl (parse_ok (b := b) (OwnR.rd o3 (i := 4) rfl) T) ?_
          rintro _ _ ⟨⟨A21, C22, l23, s24, o25⟩, rfl, hx26, rfl⟩
          obtain rfl : (parseF b).1.fs = l23 := hx26.symm
          refine AtL.move (.inl rfl) rfl rfl ?_
          refine AtL.extract (.inl rfl) rfl rfl rfl ?_
          refine AtL.extract (.inl rfl) rfl rfl rfl ?_
          refine AtL.alloc tf_zero24 (cs := #[str [], str [], .int .i64 0, .slice none 0 0]) rfl (.inl rfl) rfl ?_
          intro b27
          refine AtL.store (H' := [(b27, .cells #[str ((parseF b).1.m), str ((parseF b).1.t), .int .i64 ((parseF b).1.minor), .slice A21 ((parseF b).1.fs).length C22] 24 (0, 0))] :: s24 :: [(b17, .cells #[str ((parseF b).1.m), str ((parseF b).1.t), .int .i64 ((parseF b).1.minor), .slice A11 ((parseF b).1.fs).length C12] 24 (0, 0))] :: s14 :: [(b10, .cells #[str ((parseF b).1.m), str ((parseF b).1.t), .int .i64 ((parseF b).1.minor), .slice A4 L.length C5] 24 (0, 0))] :: sL :: s2 :: H) 0 0 tf_sz24 (.inl rfl) rfl rfl rfl rfl rfl rfl rfl rfl rfl ?_
          refine AtL.assign (.inl rfl) rfl rfl ?_
          refine AtL.done ?_
          refine At.seq ?_
          refine At.region ?_
          refine AtL.move (.inl rfl) rfl rfl ?_
          refine AtL.move (.inl rfl) rfl rfl ?_
          refine AtL.loadN (cs := [str ((parseF b).1.m), str ((parseF b).1.t), .int .i64 ((parseF b).1.minor), .slice A21 ((parseF b).1.fs).length C22]) tf_agg24 (.inr ⟨_, _, _, rfl, rfl, rfl, rfl⟩) rfl rfl rfl (cellsOwn 0 0 0 rfl rfl rfl) ?_
          refine AtL.loadN (cs := [str ((parseF b).1.m), str ((parseF b).1.t), .int .i64 ((parseF b).1.minor), .slice A11 ((parseF b).1.fs).length C12]) tf_agg24 (.inr ⟨_, _, _, rfl, rfl, rfl, rfl⟩) rfl rfl rfl (cellsOwn 2 0 0 rfl rfl rfl) ?_
          refine AtL.call tf_body21 (.inr ⟨_, _, _, rfl, rfl, rfl, rfl⟩) rfl rfl (samehead_ok (m := (parseF b).1.m) (t := (parseF b).1.t) (minor := (parseF b).1.minor) (m2 := (parseF b).1.m) (t2 := (parseF b).1.t) (minor2 := (parseF b).1.minor) (fs := (parseF b).1.fs) (gs := (parseF b).1.fs) (o25.rd (i := 1) rfl) (o15.rd (i := 3) rfl)) ?_
          rintro _ _ ⟨rfl, rfl⟩
          refine AtL.pickT (.inl rfl) rfl rfl rfl ?_
          refine AtL.move (.inl rfl) rfl rfl ?_
          refine AtL.join 2 (E' := [(66, .bool true)]) (H' := [(b27, .cells #[str ((parseF b).1.m), str ((parseF b).1.t), .int .i64 ((parseF b).1.minor), .slice A21 ((parseF b).1.fs).length C22] 24 (0, 0))] :: s24 :: [(b17, .cells #[str ((parseF b).1.m), str ((parseF b).1.t), .int .i64 ((parseF b).1.minor), .slice A11 ((parseF b).1.fs).length C12] 24 (0, 0))] :: s14 :: [(b10, .cells #[str ((parseF b).1.m), str ((parseF b).1.t), .int .i64 ((parseF b).1.minor), .slice A4 L.length C5] 24 (0, 0))] :: sL :: s2 :: H) (fun J => ?_) ?_
          · refine AtL.split (t := 64) rfl ?_ ?_
            · intro hs64
              have hs64 : (⟨(parseF b).1.m, (parseF b).1.t, (parseF b).1.minor, (parseF b).1.fs⟩ : HeadV) = ⟨(parseF b).1.m, (parseF b).1.t, (parseF b).1.minor, (parseF b).1.fs⟩ := of_decide_eq_true hs64
              refine AtL.call tf_body40 (.inr ⟨_, _, _, rfl, rfl, rfl, rfl⟩) rfl rfl (awake_ok T) ?_
              rintro _ _ ⟨rfl, rfl⟩
              refine AtL.pickT (.inl rfl) rfl rfl rfl ?_
              exact J _ (by exact ⟨rfl, trivial⟩)
            · intro hs64
              exact Bool.noConfusion (hs64.symm.trans (decide_eq_true rfl))
          · skip
            refine AtL.assign (.inl rfl) rfl rfl ?_
            refine AtL.done ?_
            refine At.pick (H' := H) [] 7 rfl rfl ?_
            exact At.ret Tryd.func9 rfl rfl (⟨rfl, rfl⟩)

end Go.Proofs.YtlfkoimkojbghaaDoor
