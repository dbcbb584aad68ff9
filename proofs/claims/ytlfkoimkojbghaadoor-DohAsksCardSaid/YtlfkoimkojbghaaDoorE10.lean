/- DohAsks: the walk. -/
import Derived.Test.YtlfkoimkojbghaaDoorE9
namespace Go.Proofs.YtlfkoimkojbghaaDoor
set_option linter.unusedVariables false
set_option linter.unusedSimpArgs false
set_option maxRecDepth 100000

set_option maxHeartbeats 1000000 in
theorem dohasks_ok {w0 : World} {base : Nat} {H : List Seg} {m t : List UInt8} {minor : Int} {A : Option Addr} {C : Nat} {fs : List (List UInt8 × List UInt8)} (h : Rd tyField w0 base H A C fs) {Ab : Option Addr} {Cb : Nat} {body : List UInt8} (hbody : Rd tyB w0 base H Ab Cb body) (hb : ∀ f ∈ fs, f.1.length ≤ 140737488355000 ∧ f.2.length ≤ 140737488355000) (T : Tabs w0 base) :
    SCalls Tryd.prog 3 [.agg #[str m, str t, .int .i64 minor, .slice A fs.length C], .slice Ab body.length Cb] w0 base (H) (fun v H' => v = .bool true ∧ H' = H) := by
  have hle0 := h.le
  have hcap0 := h.cap
  have hleb := hbody.le
  have hcapb := hbody.cap
  refine SCalls.of_walk (n := 86) Tryd.func3 rfl rfl rfl fun cs => ?_
  refine At.seq ?_
  refine At.region ?_
  refine AtL.box (cs := #[str m, str t, .int .i64 minor, .slice A fs.length C]) rfl (.inl rfl) rfl rfl ?_
  intro b1
  refine AtL.assign (.inl rfl) rfl rfl ?_
  refine AtL.done ?_
  refine At.seq ?_
  refine At.seq ?_
  refine At.region ?_
  refine AtL.loadN (cs := [str m, str t, .int .i64 minor, .slice A fs.length C]) tf_agg24 (.inl rfl) rfl rfl rfl (cellsOwn 0 0 0 rfl rfl rfl) ?_
  refine AtL.call tf_body11 (.inl rfl) rfl rfl (longhead_ok (m := m) (t := t) (minor := minor) (fs := fs) (Rd.skip 1 h) hb) ?_
  rintro _ _ ⟨bl2, rfl, hx3, rfl⟩
  have hlong := hx3
  refine AtL.move (.inl rfl) rfl rfl ?_
  refine AtL.join 4 (E' := [(22, .bool (decide ((bl2 = true) ∨ (70000 < (body.length : Int))))), (1, .slice Ab body.length Cb), (2, .pointer (some ⟨b1, 0, none⟩))]) (H' := [(b1, .cells #[str m, str t, .int .i64 minor, .slice A fs.length C] 24 (0, 0))] :: H) (fun J => ?_) ?_
  · refine AtL.split (t := 18) rfl ?_ ?_
    · intro hs18
      have hs18 : bl2 = true := hs18
      refine AtL.skipped rfl rfl rfl rfl rfl rfl ?_
      refine AtL.skipped rfl rfl rfl rfl rfl rfl ?_
      refine AtL.skipped rfl rfl rfl rfl rfl rfl ?_
      refine AtL.pickT (.inl rfl) rfl rfl rfl ?_
      exact J _ (by exact ⟨(boolIs (by clear J; first | (simp [hs18]; done) | (simp_all; done) | grind)), rfl, rfl, trivial⟩)
    · intro hs18
      have hs18 : bl2 = false := hs18
      refine AtL.move (.inr ⟨_, _, _, rfl, rfl, rfl, rfl⟩) rfl rfl ?_
      refine AtL.lenL Tryd.underlying25 (.inr ⟨_, _, _, rfl, rfl, rfl, rfl⟩) rfl rfl ?_
      refine AtL.gtr (.inr ⟨_, _, _, rfl, rfl, rfl, rfl⟩) rfl rfl rfl ?_
      refine AtL.pickF (.inl rfl) rfl rfl rfl ?_
      exact J _ (by exact ⟨(boolIs (by clear J; first | (simp [hs18]; done) | (simp_all; done) | grind)), rfl, rfl, trivial⟩)
  · skip
    refine AtL.done ?_
    refine At.cond rfl ?_ ?_
    · intro hc1
      have hc1 : (bl2 = true) ∨ (70000 < (body.length : Int)) := of_decide_eq_true hc1
      refine At.seq ?_
      refine At.region ?_
      refine AtL.call tf_body12 (.inl rfl) rfl rfl (awake16_ok T) ?_
      rintro _ _ ⟨rfl, rfl⟩
      refine AtL.assign (.inl rfl) rfl rfl ?_
      refine AtL.done ?_
      refine At.pick (H' := H) [] 1 rfl rfl ?_
      exact At.ret Tryd.func3 rfl rfl (⟨rfl, rfl⟩)
    · intro hc1
      have hc1 : ¬ ((bl2 = true) ∨ (70000 < (body.length : Int))) := of_decide_eq_false hc1
      obtain ⟨hm6, ht6, hf60, hb6⟩ := hlong (by simp only [not_or, Bool.not_eq_true] at hc1; exact hc1.1)
      have hbl : body.length ≤ 70000 := by simp only [not_or] at hc1; omega
      have hfl : fs.length ≤ 1000 := by omega
      have hbq : ∀ f ∈ fs, f.1.length ≤ 4294967280 ∧ f.2.length ≤ 4294967280 := fun f hf => by have := hb6 f hf; omega
      refine At.skip ?_
      refine At.seq ?_
      refine At.region ?_
      refine AtL.loadN (cs := [str m, str t, .int .i64 minor, .slice A fs.length C]) tf_agg24 (.inl rfl) rfl rfl rfl (cellsOwn 0 0 0 rfl rfl rfl) ?_
      refine AtL.call tf_body13 (.inl rfl) rfl rfl (copyhead_ok (m := m) (t := t) (minor := minor) (fs := fs) (Rd.skip 1 h) (by omega)) ?_
      rintro _ _ ⟨⟨A4, C5, l6, s7, o8⟩, hx9, rfl, rfl⟩
      obtain rfl : fs = l6 := hx9.symm
      refine AtL.move (.inl rfl) rfl rfl ?_
      refine AtL.call tf_body14 (.inl rfl) rfl rfl (lent_ok (l := body) (Rd.skip 2 hbody) (by omega)) ?_
      rintro _ _ ⟨A10, s11, o12, rfl, rfl⟩
      refine AtL.alloc tf_zero24 (cs := #[str [], str [], .int .i64 0, .slice none 0 0]) rfl (.inl rfl) rfl ?_
      intro b13
      refine AtL.store (H' := [(b13, .cells #[str m, str t, .int .i64 minor, .slice A4 fs.length C5] 24 (0, 0))] :: s11 :: s7 :: [(b1, .cells #[str m, str t, .int .i64 minor, .slice A fs.length C] 24 (0, 0))] :: H) 0 0 tf_sz24 (.inl rfl) rfl rfl rfl rfl rfl rfl rfl rfl rfl ?_
      refine AtL.assign (.inl rfl) rfl rfl ?_
      refine AtL.done ?_
      refine At.seq ?_
      refine At.region ?_
      refine AtL.loadN (cs := [str m, str t, .int .i64 minor, .slice A4 fs.length C5]) tf_agg24 (.inl rfl) rfl rfl rfl (cellsOwn 0 0 0 rfl rfl rfl) ?_
      refine AtL.move (.inl rfl) rfl rfl ?_
      refine AtL.call tf_body15 (.inl rfl) rfl rfl (ask_ok (m := m) (t := t) (minor := minor) (fs := fs) (body := body) (o8.rd (i := 2) rfl) (OwnR.rd o12 (i := 1) rfl) hfl hbq (by omega) (by omega) T) ?_
      rintro _ _ ⟨⟨A14, C15, l16, s17, o18⟩, hx19, rfl, rfl⟩
      obtain rfl : (askF m t fs body).1 = l16 := hx19.symm
      refine AtL.move (.inl rfl) rfl rfl ?_
      refine AtL.extract (.inl rfl) rfl rfl rfl ?_
      refine AtL.extract (.inl rfl) rfl rfl rfl ?_
      refine AtL.assign (.inl rfl) rfl rfl ?_
      refine AtL.assign (.inl rfl) rfl rfl ?_
      refine AtL.done ?_
      refine At.seq ?_
      refine At.region ?_
      refine AtL.loadN (cs := [str m, str t, .int .i64 minor, .slice A fs.length C]) tf_agg24 (.inl rfl) rfl rfl rfl (cellsOwn 4 0 0 rfl rfl rfl) ?_
      refine AtL.move (.inl rfl) rfl rfl ?_
      refine AtL.call tf_body16 (.inl rfl) rfl rfl (rask_ok (m := m) (t := t) (minor := minor) (fs := fs) (body := body) (Rd.skip 5 h) (Rd.skip 5 hbody) hfl hbq (by omega) (by omega)) ?_
      rintro _ _ ⟨⟨A20, C21, l22, s23, o24⟩, hx25, rfl, rfl⟩
      obtain rfl : (askF m t fs body).1 = l22 := hx25.symm
      refine AtL.move (.inl rfl) rfl rfl ?_
      refine AtL.extract (.inl rfl) rfl rfl rfl ?_
      refine AtL.extract (.inl rfl) rfl rfl rfl ?_
      refine AtL.assign (.inl rfl) rfl rfl ?_
      refine AtL.assign (.inl rfl) rfl rfl ?_
      refine AtL.done ?_
      refine At.seq ?_
      refine At.region ?_
      refine AtL.fieldAddrB tf_fo24_1 (.inl rfl) rfl rfl rfl ?_
      refine AtL.load tf_flat9 (.inl rfl) rfl rfl (Cell.own 5 0 rfl rfl rfl) ?_
      refine AtL.call tf_body17 (.inl rfl) rfl rfl (path_ok (t := t) (by omega) T) ?_
      rintro _ _ ⟨rfl, rfl⟩
      refine AtL.move (.inl rfl) rfl rfl ?_
      refine AtL.extract (.inl rfl) rfl rfl rfl ?_
      refine AtL.extract (.inl rfl) rfl rfl rfl ?_
      refine AtL.assign (.inl rfl) rfl rfl ?_
      refine AtL.assign (.inl rfl) rfl rfl ?_
      refine AtL.done ?_
      refine At.seq ?_
      refine At.region ?_
      refine AtL.fieldAddrB tf_fo24_1 (.inl rfl) rfl rfl rfl ?_
      refine AtL.load tf_flat9 (.inl rfl) rfl rfl (Cell.own 5 0 rfl rfl rfl) ?_
      refine AtL.call tf_body18 (.inl rfl) rfl rfl (rpath_ok (t := t) (by omega)) ?_
      rintro _ _ ⟨rfl, rfl⟩
      refine AtL.move (.inl rfl) rfl rfl ?_
      refine AtL.extract (.inl rfl) rfl rfl rfl ?_
      refine AtL.extract (.inl rfl) rfl rfl rfl ?_
      refine AtL.assign (.inl rfl) rfl rfl ?_
      refine AtL.assign (.inl rfl) rfl rfl ?_
      refine AtL.done ?_
      refine At.seq ?_
      refine At.region ?_
      refine AtL.move (.inl rfl) rfl rfl ?_
      refine AtL.move (.inl rfl) rfl rfl ?_
      refine AtL.eqi (.inl rfl) rfl rfl rfl ?_
      refine AtL.move (.inl rfl) rfl rfl ?_
      refine AtL.join 4 (E' := [(59, .bool (decide (((askF m t fs body).1) = ((askF m t fs body).1)))), (1, .slice Ab body.length Cb), (2, .pointer (some ⟨b1, 0, none⟩)), (5, .pointer (some ⟨b13, 0, none⟩)), (6, .slice A10 body.length (body.length + 3)), (7, .slice A14 ((askF m t fs body).1).length C15), (11, str ((Lib.cut t [63]).1)), (12, str ((Lib.cut t [63]).2.1)), (13, str ((Lib.cut t [63]).1)), (14, str ((Lib.cut t [63]).2.1))]) (H' := s23 :: s17 :: [(b13, .cells #[str m, str t, .int .i64 minor, .slice A4 fs.length C5] 24 (0, 0))] :: s11 :: s7 :: [(b1, .cells #[str m, str t, .int .i64 minor, .slice A fs.length C] 24 (0, 0))] :: H) (fun J => ?_) ?_
      · refine AtL.split (t := 55) rfl ?_ ?_
        · intro hs55
          have hs55 : ((askF m t fs body).2 : Int) = ((askF m t fs body).2) := of_decide_eq_true hs55
          refine AtL.move (.inr ⟨_, _, _, rfl, rfl, rfl, rfl⟩) rfl rfl ?_
          refine AtL.move (.inr ⟨_, _, _, rfl, rfl, rfl, rfl⟩) rfl rfl ?_
          refine AtL.call tf_body19 (.inr ⟨_, _, _, rfl, rfl, rfl, rfl⟩) rfl rfl (same_ok (l := ((askF m t fs body).1)) (l2 := ((askF m t fs body).1)) (o18.rd (i := 1) rfl) (o24.rd (i := 0) rfl)) ?_
          rintro _ _ ⟨rfl, rfl⟩
          refine AtL.pickT (.inl rfl) rfl rfl rfl ?_
          exact J _ (by exact ⟨(boolIs (by clear J; first | (simp [hs55]; done) | (simp_all; done) | grind)), rfl, rfl, rfl, rfl, rfl, rfl, rfl, rfl, rfl, trivial⟩)
        · intro hs55
          exact Bool.noConfusion (hs55.symm.trans (decide_eq_true rfl))
      · skip
        refine AtL.move (.inl rfl) rfl rfl ?_
        refine AtL.join 4 (E' := [(64, .bool (decide ((Lib.cut t [63]).1 = (Lib.cut t [63]).1))), (1, .slice Ab body.length Cb), (2, .pointer (some ⟨b1, 0, none⟩)), (5, .pointer (some ⟨b13, 0, none⟩)), (6, .slice A10 body.length (body.length + 3)), (7, .slice A14 ((askF m t fs body).1).length C15), (12, str ((Lib.cut t [63]).2.1)), (14, str ((Lib.cut t [63]).2.1))]) (H' := s23 :: s17 :: [(b13, .cells #[str m, str t, .int .i64 minor, .slice A4 fs.length C5] 24 (0, 0))] :: s11 :: s7 :: [(b1, .cells #[str m, str t, .int .i64 minor, .slice A fs.length C] 24 (0, 0))] :: H) (fun J => ?_) ?_
        · refine AtL.split (t := 60) rfl ?_ ?_
          · intro hs60
            have hs60 : ((askF m t fs body).1) = ((askF m t fs body).1) := of_decide_eq_true hs60
            refine AtL.move (.inr ⟨_, _, _, rfl, rfl, rfl, rfl⟩) rfl rfl ?_
            refine AtL.move (.inr ⟨_, _, _, rfl, rfl, rfl, rfl⟩) rfl rfl ?_
            refine AtL.eqs (a := (Lib.cut t [63]).1) (b := (Lib.cut t [63]).1) (.inr ⟨_, _, _, rfl, rfl, rfl, rfl⟩) rfl rfl rfl ?_
            refine AtL.pickT (.inl rfl) rfl rfl rfl ?_
            exact J _ (by exact ⟨(boolIs (by clear J; first | (simp [hs60]; done) | (simp_all; done) | grind)), rfl, rfl, rfl, rfl, rfl, rfl, rfl, trivial⟩)
          · intro hs60
            exact Bool.noConfusion (hs60.symm.trans (decide_eq_true rfl))
        · skip
          refine AtL.move (.inl rfl) rfl rfl ?_
          refine AtL.join 4 (E' := [(69, .bool (decide ((Lib.cut t [63]).2.1 = (Lib.cut t [63]).2.1))), (1, .slice Ab body.length Cb), (2, .pointer (some ⟨b1, 0, none⟩)), (5, .pointer (some ⟨b13, 0, none⟩)), (6, .slice A10 body.length (body.length + 3)), (7, .slice A14 ((askF m t fs body).1).length C15)]) (H' := s23 :: s17 :: [(b13, .cells #[str m, str t, .int .i64 minor, .slice A4 fs.length C5] 24 (0, 0))] :: s11 :: s7 :: [(b1, .cells #[str m, str t, .int .i64 minor, .slice A fs.length C] 24 (0, 0))] :: H) (fun J => ?_) ?_
          · refine AtL.split (t := 65) rfl ?_ ?_
            · intro hs65
              have hs65 : (Lib.cut t [63]).1 = (Lib.cut t [63]).1 := of_decide_eq_true hs65
              refine AtL.move (.inr ⟨_, _, _, rfl, rfl, rfl, rfl⟩) rfl rfl ?_
              refine AtL.move (.inr ⟨_, _, _, rfl, rfl, rfl, rfl⟩) rfl rfl ?_
              refine AtL.eqs (a := (Lib.cut t [63]).2.1) (b := (Lib.cut t [63]).2.1) (.inr ⟨_, _, _, rfl, rfl, rfl, rfl⟩) rfl rfl rfl ?_
              refine AtL.pickT (.inl rfl) rfl rfl rfl ?_
              exact J _ (by exact ⟨(boolIs (by clear J; first | (simp [hs65]; done) | (simp_all; done) | grind)), rfl, rfl, rfl, rfl, rfl, trivial⟩)
            · intro hs65
              exact Bool.noConfusion (hs65.symm.trans (decide_eq_true rfl))
          · skip
            refine AtL.assign (.inl rfl) rfl rfl ?_
            refine AtL.done ?_
            refine At.seq ?_
            refine At.region ?_
            refine AtL.move (.inl rfl) rfl rfl ?_
            refine AtL.pick (H' := s17 :: s23 :: [(b13, .cells #[str m, str t, .int .i64 minor, .slice A4 fs.length C5] 24 (0, 0))] :: s11 :: s7 :: [(b1, .cells #[str m, str t, .int .i64 minor, .slice A fs.length C] 24 (0, 0))] :: H) [1, 0, 2, 3, 4, 5] 6 rfl rfl ?_
            refine AtL.call tf_body20 (.inl rfl) rfl rfl (over_own o18) ?_
            rintro _ _ ⟨s26, rfl, rfl⟩
            refine AtL.done ?_
            refine At.seq ?_
            refine At.region ?_
            refine AtL.move (.inl rfl) rfl rfl ?_
            refine AtL.move (.inl rfl) rfl rfl ?_
            refine AtL.join 4 (E' := [(77, .bool (decide ((⟨m, t, minor, fs⟩ : HeadV) = ⟨m, t, minor, fs⟩))), (1, .slice Ab body.length Cb), (6, .slice A10 body.length (body.length + 3))]) (H' := s26 :: s23 :: [(b13, .cells #[str m, str t, .int .i64 minor, .slice A4 fs.length C5] 24 (0, 0))] :: s11 :: s7 :: [(b1, .cells #[str m, str t, .int .i64 minor, .slice A fs.length C] 24 (0, 0))] :: H) (fun J => ?_) ?_
            · refine AtL.split (t := 73) rfl ?_ ?_
              · intro hs73
                have hs73 : (Lib.cut t [63]).2.1 = (Lib.cut t [63]).2.1 := of_decide_eq_true hs73
                refine AtL.loadN (cs := [str m, str t, .int .i64 minor, .slice A4 fs.length C5]) tf_agg24 (.inr ⟨_, _, _, rfl, rfl, rfl, rfl⟩) rfl rfl rfl (cellsOwn 2 0 0 rfl rfl rfl) ?_
                refine AtL.loadN (cs := [str m, str t, .int .i64 minor, .slice A fs.length C]) tf_agg24 (.inr ⟨_, _, _, rfl, rfl, rfl, rfl⟩) rfl rfl rfl (cellsOwn 5 0 0 rfl rfl rfl) ?_
                refine AtL.call tf_body21 (.inr ⟨_, _, _, rfl, rfl, rfl, rfl⟩) rfl rfl (samehead_ok (m := m) (t := t) (minor := minor) (m2 := m) (t2 := t) (minor2 := minor) (fs := fs) (gs := fs) (o8.rd (i := 4) rfl) (Rd.skip 6 h)) ?_
                rintro _ _ ⟨rfl, rfl⟩
                refine AtL.pickT (.inl rfl) rfl rfl rfl ?_
                exact J _ (by exact ⟨(boolIs (by clear J; first | (simp [hs73]; done) | (simp_all; done) | grind)), rfl, rfl, trivial⟩)
              · intro hs73
                exact Bool.noConfusion (hs73.symm.trans (decide_eq_true rfl))
            · skip
              refine AtL.move (.inl rfl) rfl rfl ?_
              refine AtL.join 4 (E' := [(82, .bool true)]) (H' := s26 :: s23 :: [(b13, .cells #[str m, str t, .int .i64 minor, .slice A4 fs.length C5] 24 (0, 0))] :: s11 :: s7 :: [(b1, .cells #[str m, str t, .int .i64 minor, .slice A fs.length C] 24 (0, 0))] :: H) (fun J => ?_) ?_
              · refine AtL.split (t := 78) rfl ?_ ?_
                · intro hs78
                  have hs78 : (⟨m, t, minor, fs⟩ : HeadV) = ⟨m, t, minor, fs⟩ := of_decide_eq_true hs78
                  refine AtL.move (.inr ⟨_, _, _, rfl, rfl, rfl, rfl⟩) rfl rfl ?_
                  refine AtL.move (.inr ⟨_, _, _, rfl, rfl, rfl, rfl⟩) rfl rfl ?_
                  refine AtL.pick (H' := s11 :: s26 :: s23 :: [(b13, .cells #[str m, str t, .int .i64 minor, .slice A4 fs.length C5] 24 (0, 0))] :: s7 :: [(b1, .cells #[str m, str t, .int .i64 minor, .slice A fs.length C] 24 (0, 0))] :: H) [3, 0, 1, 2, 4, 5] 6 rfl rfl ?_
                  refine AtL.call tf_body22 (.inr ⟨_, _, _, rfl, rfl, rfl, rfl⟩) rfl rfl (kept_ok o12 (Rd.skip 5 hbody) (by omega)) ?_
                  rintro _ _ ⟨s27, rfl, rfl⟩
                  refine AtL.pickT (.inl rfl) rfl rfl rfl ?_
                  refine AtL.pick (H' := s26 :: s23 :: [(b13, .cells #[str m, str t, .int .i64 minor, .slice A4 fs.length C5] 24 (0, 0))] :: s11 :: s7 :: [(b1, .cells #[str m, str t, .int .i64 minor, .slice A fs.length C] 24 (0, 0))] :: H) [2, 3, 4, 1, 5, 6] 7 rfl rfl ?_
                  exact J _ (by exact ⟨rfl, trivial⟩)
                · intro hs78
                  exact Bool.noConfusion (hs78.symm.trans (decide_eq_true rfl))
              · skip
                refine AtL.move (.inl rfl) rfl rfl ?_
                refine AtL.call tf_body12 (.inr ⟨_, _, _, rfl, rfl, rfl, rfl⟩) rfl rfl (awake16_ok T) ?_
                rintro _ _ ⟨rfl, rfl⟩
                refine AtL.pickT (.inl rfl) rfl rfl rfl ?_
                refine AtL.assign (.inl rfl) rfl rfl ?_
                refine AtL.done ?_
                refine At.pick (H' := H) [] 6 rfl rfl ?_
                exact At.ret Tryd.func3 rfl rfl (⟨rfl, rfl⟩)

end Go.Proofs.YtlfkoimkojbghaaDoor
