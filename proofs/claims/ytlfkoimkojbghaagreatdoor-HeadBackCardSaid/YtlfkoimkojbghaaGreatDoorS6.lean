/- HeadBack: the walk. -/
import Derived.Test.YtlfkoimkojbghaaGreatDoorS5
namespace Go.Proofs.YtlfkoimkojbghaaGreatDoor
set_option linter.unusedVariables false
set_option linter.unusedSimpArgs false
set_option maxRecDepth 100000

theorem fieldsF_st (ls : List (List UInt8)) (n : Nat) : fieldsF ls n ≠ .inl 200 := by
  induction ls generalizing n with
  | nil => intro h; cases h
  | cons x ls ih =>
    intro h
    rw [fieldsF] at h
    split at h
    · cases h
    · split at h
      · cases h
      · split at h
        · split at h
          · rename_i s hs; exact ih _ (by rw [hs]; exact h)
          · cases h
        · cases h
theorem parse_zero {b : List UInt8} {z : HeadV} {st : Int} (h : parseF b = (z, st)) (hs : ¬ st = 200) : z = .zero := by
  have key : ∀ l0 ls, headF l0 ls = (z, st) → z = .zero := by
    intro l0 ls h
    rw [headF] at h
    split at h
    · repeat' split at h
      all_goals first | (cases h; rfl) | (exfalso; injection h with _ h2; exact hs h2.symm)
    · cases h; rfl
  rw [parseF] at h
  split at h
  · cases h; rfl
  · split at h
    · cases h; rfl
    · cases h; rfl
    · exact key _ _ h
theorem szF_fieldsB (fs : List Fld) : szF fs ≤ (fieldsB fs).length := by
  induction fs with
  | nil => simp [szF]
  | cons f fs ih => simp only [szF, fieldsB, fieldB, List.length_append, List.length_cons, List.map_cons, List.sum_cons] at ih ⊢; omega
theorem tot_headB (h : HeadV) : h.m.length + h.t.length + szF h.fs ≤ (headB h).length := by
  have := szF_fieldsB h.fs
  simp only [headB, lineB, List.length_append, List.length_cons]; omega
theorem back_ok {h : HeadV} (he : writeE h = 0) : parseF (writeL h) = (h, 200) ∧ (writeL h).length ≤ 4096 := by
  have hw : writeOk h = true := by
    cases hq : writeOk h with
    | true => rfl
    | false => rw [writeE, hq] at he; cases he
  rw [writeL, if_pos hw]
  refine ⟨back1 h hw, ?_⟩
  simp only [writeOk, Bool.and_eq_true, decide_eq_true_eq] at hw
  exact hw.2
theorem back_z {b : List UInt8} {z : HeadV} (h : parseF b = (z, 200)) : z.fs.length ≤ 32 ∧ 0 ≤ z.minor ∧ z.minor ≤ 1 ∧ z.m.length + z.t.length + szF z.fs ≤ b.length + 32 ∧ (¬ writeE z = 0 → 4064 < b.length) := by
  obtain ⟨h1, h2⟩ := back2 b z h
  have h3 := h1
  simp only [okF, Bool.and_eq_true, decide_eq_true_eq] at h3
  obtain ⟨⟨⟨⟨⟨⟨_, _⟩, _⟩, hmin⟩, hfs⟩, _⟩, _⟩ := h3
  have h4 := tot_headB z
  refine ⟨hfs, hmin.1, hmin.2, by omega, fun he => ?_⟩
  have : ¬ (headB z).length ≤ 4096 := fun h5 => he (by rw [writeE, writeOk, h1, decide_eq_true h5]; rfl)
  omega

set_option maxHeartbeats 1000000 in
theorem headback_ok {w0 : World} {base : Nat} {H : List Seg} {m t : List UInt8} {minor : Int} {A : Option Addr} {C : Nat} {fs : List (List UInt8 × List UInt8)} (h : Rd tyField w0 base H A C fs) (hb : ∀ f ∈ fs, f.1.length ≤ 140737488355000 ∧ f.2.length ≤ 140737488355000) (T : Tabs w0 base) {A2 : Option Addr} {C2 : Nat} {b : List UInt8} (h2 : Rd tyB w0 base H A2 C2 b) :
    SCalls Tryz.prog 12 [.agg #[str m, str t, .int .i64 minor, .slice A fs.length C], .slice A2 b.length C2] w0 base (H) (fun v H' => v = .bool true ∧ H' = H) := by
  have hle0 := h.le
  have hcap0 := h.cap
  have hle1 := h2.le
  have hcap1 := h2.cap
  refine SCalls.of_walk (n := 111) Tryz.func12 rfl rfl rfl fun cs => ?_
  refine At.seq ?_
  refine At.region ?_
  refine AtL.box (cs := #[str m, str t, .int .i64 minor, .slice A fs.length C]) rfl (.inl rfl) rfl rfl ?_
  intro b1
  refine AtL.assign (.inl rfl) rfl rfl ?_
  refine AtL.done ?_
  refine At.seq ?_
  refine At.region ?_
  refine AtL.call tf_body11 (.inl rfl) rfl rfl (headknown_ok T) ?_
  rintro _ _ ⟨rfl, rfl⟩
  refine AtL.assign (.inl rfl) rfl rfl ?_
  refine AtL.done ?_
  refine At.seq ?_
  refine At.seq ?_
  refine At.region ?_
  refine AtL.loadN (cs := [str m, str t, .int .i64 minor, .slice A fs.length C]) tf_agg35 (.inl rfl) rfl rfl rfl (cellsOwn 0 0 0 rfl rfl rfl) ?_
  refine AtL.call tf_body30 (.inl rfl) rfl rfl (longhead_ok (m := m) (t := t) (minor := minor) (fs := fs) (Rd.skip 1 h) hb) ?_
  rintro _ _ ⟨bl2, rfl, hx3, rfl⟩
  have hlong := hx3
  refine AtL.move (.inl rfl) rfl rfl ?_
  refine AtL.join 4 (E' := [(23, .bool (decide ((bl2 = true) ∨ (6000 < (b.length : Int))))), (1, .slice A2 b.length C2), (2, .pointer (some ⟨b1, 0, none⟩)), (5, .bool true)]) (H' := [(b1, .cells #[str m, str t, .int .i64 minor, .slice A fs.length C] 35 (0, 0))] :: H) (fun J => ?_) ?_
  · refine AtL.split (t := 19) rfl ?_ ?_
    · intro hs19
      have hs19 : bl2 = true := hs19
      refine AtL.skipped rfl rfl rfl rfl rfl rfl ?_
      refine AtL.skipped rfl rfl rfl rfl rfl rfl ?_
      refine AtL.skipped rfl rfl rfl rfl rfl rfl ?_
      refine AtL.pickT (.inl rfl) rfl rfl rfl ?_
      exact J _ (by exact ⟨(boolIs (by clear J; first | (simp [hs19]; done) | (simp_all; done) | grind)), rfl, rfl, rfl, trivial⟩)
    · intro hs19
      have hs19 : bl2 = false := hs19
      refine AtL.move (.inr ⟨_, _, _, rfl, rfl, rfl, rfl⟩) rfl rfl ?_
      refine AtL.lenL Tryz.underlying22 (.inr ⟨_, _, _, rfl, rfl, rfl, rfl⟩) rfl rfl ?_
      refine AtL.gtr (.inr ⟨_, _, _, rfl, rfl, rfl, rfl⟩) rfl rfl rfl ?_
      refine AtL.pickF (.inl rfl) rfl rfl rfl ?_
      exact J _ (by exact ⟨(boolIs (by clear J; first | (simp [hs19]; done) | (simp_all; done) | grind)), rfl, rfl, rfl, trivial⟩)
  · skip
    refine AtL.done ?_
    refine At.cond rfl ?_ ?_
    · intro hc1
      have hc1 : (bl2 = true) ∨ (6000 < (b.length : Int)) := of_decide_eq_true hc1
      refine At.seq ?_
      refine At.region ?_
      refine AtL.move (.inl rfl) rfl rfl ?_
      refine AtL.assign (.inl rfl) rfl rfl ?_
      refine AtL.done ?_
      refine At.pick (H' := H) [] 1 rfl rfl ?_
      exact At.ret Tryz.func12 rfl rfl (⟨rfl, rfl⟩)
    · intro hc1
      have hc1 : ¬ ((bl2 = true) ∨ (6000 < (b.length : Int))) := of_decide_eq_false hc1
      simp only [not_or, Bool.not_eq_true] at hc1
      obtain ⟨hm6, ht6, hf60, hb6⟩ := hlong hc1.1
      have hfl : fs.length ≤ 1000 := by omega
      have hb60 := hc1.2
      have htot : m.length + t.length + szF fs ≤ 140737488354000 := by have := szF_le hb6; have h2 : fs.length * (2 * 6000 + 4) ≤ 60 * 12004 := Nat.mul_le_mul hf60 (by omega); omega
      obtain ⟨z, st, hz⟩ : ∃ z st, parseF b = (z, st) := ⟨_, _, rfl⟩
      obtain ⟨zm, zt, zn, zf⟩ := z
      refine At.skip ?_
      refine At.seq ?_
      refine At.region ?_
      refine AtL.loadN (cs := [str m, str t, .int .i64 minor, .slice A fs.length C]) tf_agg35 (.inl rfl) rfl rfl rfl (cellsOwn 0 0 0 rfl rfl rfl) ?_
      refine AtL.call tf_body33 (.inl rfl) rfl rfl (write_ok (m := m) (t := t) (minor := minor) (fs := fs) (Rd.skip 1 h) hfl htot) ?_
      rintro _ _ ⟨⟨A4, C5, l6, s7, o8⟩, hx9, rfl, rfl⟩
      obtain rfl : writeL ⟨m, t, minor, fs⟩ = l6 := hx9.symm
      refine AtL.move (.inl rfl) rfl rfl ?_
      refine AtL.extract (.inl rfl) rfl rfl rfl ?_
      refine AtL.extract (.inl rfl) rfl rfl rfl ?_
      refine AtL.assign (.inl rfl) rfl rfl ?_
      refine AtL.assign (.inl rfl) rfl rfl ?_
      refine AtL.done ?_
      refine At.seq ?_
      refine At.seq ?_
      refine At.region ?_
      refine AtL.move (.inl rfl) rfl rfl ?_
      refine AtL.eqi (.inl rfl) rfl rfl rfl ?_
      refine AtL.loadN (cs := [str m, str t, .int .i64 minor, .slice A fs.length C]) tf_agg35 (.inl rfl) rfl rfl rfl (cellsOwn 1 0 0 rfl rfl rfl) ?_
      refine AtL.call tf_body35 (.inl rfl) rfl rfl (check_ok (m := m) (t := t) (minor := minor) (fs := fs) (Rd.skip 2 h) hfl htot) ?_
      rintro _ _ ⟨rfl, rfl⟩
      refine AtL.eqi (.inl rfl) rfl rfl rfl ?_
      refine AtL.neb Tryz.underlying4 (.inl rfl) rfl rfl rfl ?_
      refine AtL.done ?_
      refine At.condIs false rfl (congrArg not (beq_self_eq_true _)) ?_
      refine At.skip ?_
      refine At.seq ?_
      refine At.seq ?_
      refine At.region ?_
      refine AtL.move (.inl rfl) rfl rfl ?_
      refine AtL.eqi (.inl rfl) rfl rfl rfl ?_
      refine AtL.done ?_
      refine At.cond rfl ?_ ?_
      · intro hc3
        have hc3 : (writeE ⟨m, t, minor, fs⟩ : Int) = 0 := of_decide_eq_true hc3
        have hb1 := back_ok (h := ⟨m, t, minor, fs⟩) hc3
        refine At.seq ?_
        refine At.region ?_
        refine AtL.move (.inl rfl) rfl rfl ?_
        refine AtL.call tf_body57 (.inl rfl) rfl rfl (parse_known (b := writeL ⟨m, t, minor, fs⟩) hb1.1 (o8.rd (i := 0) rfl) T) ?_
        rintro _ _ ⟨⟨A10, C11, l12, s13, o14⟩, hx15, rfl, rfl⟩
        obtain rfl : fs = l12 := hx15.symm
        refine AtL.move (.inl rfl) rfl rfl ?_
        refine AtL.extract (.inl rfl) rfl rfl rfl ?_
        refine AtL.extract (.inl rfl) rfl rfl rfl ?_
        refine AtL.alloc tf_zero35 (cs := #[str [], str [], .int .i64 0, .slice none 0 0]) rfl (.inl rfl) rfl ?_
        intro b16
        refine AtL.store (H' := [(b16, .cells #[str m, str t, .int .i64 minor, .slice A10 fs.length C11] 35 (0, 0))] :: s13 :: s7 :: [(b1, .cells #[str m, str t, .int .i64 minor, .slice A fs.length C] 35 (0, 0))] :: H) 0 0 tf_sz35 (.inl rfl) rfl rfl rfl rfl rfl rfl rfl rfl rfl ?_
        refine AtL.assign (.inl rfl) rfl rfl ?_
        refine AtL.done ?_
        refine At.seq ?_
        refine At.region ?_
        refine AtL.move (.inl rfl) rfl rfl ?_
        refine AtL.nei (.inl rfl) rfl rfl rfl ?_
        refine AtL.move (.inl rfl) rfl rfl ?_
        refine AtL.loadN (cs := [str m, str t, .int .i64 minor, .slice A10 fs.length C11]) tf_agg35 (.inr ⟨_, _, _, rfl, rfl, rfl, rfl⟩) rfl rfl rfl (cellsOwn 0 0 0 rfl rfl rfl) ?_
        refine AtL.loadN (cs := [str m, str t, .int .i64 minor, .slice A fs.length C]) tf_agg35 (.inr ⟨_, _, _, rfl, rfl, rfl, rfl⟩) rfl rfl rfl (cellsOwn 3 0 0 rfl rfl rfl) ?_
        refine AtL.call tf_body37 (.inr ⟨_, _, _, rfl, rfl, rfl, rfl⟩) rfl rfl (samehead_ok (m := m) (t := t) (minor := minor) (m2 := m) (t2 := t) (minor2 := minor) (fs := fs) (gs := fs) (o14.rd (i := 1) rfl) (Rd.skip 4 h)) ?_
        rintro _ _ ⟨rfl, rfl⟩
        refine AtL.not (.inr ⟨_, _, _, rfl, rfl, rfl, rfl⟩) rfl rfl ?_
        refine AtL.pickF (.inl rfl) rfl rfl rfl ?_
        refine AtL.move (.inl rfl) rfl rfl ?_
        refine AtL.join 4 (E' := [(55, .bool (decide (4096 < ((writeL ⟨m, t, minor, fs⟩).length : Int)))), (1, .slice A2 b.length C2), (5, .bool true)]) (H' := [(b16, .cells #[str m, str t, .int .i64 minor, .slice A10 fs.length C11] 35 (0, 0))] :: s13 :: s7 :: [(b1, .cells #[str m, str t, .int .i64 minor, .slice A fs.length C] 35 (0, 0))] :: H) (fun J => ?_) ?_
        · refine AtL.split (t := 51) rfl ?_ ?_
          · intro hs51
            exact Bool.noConfusion (hs51.symm.trans (congrArg not (decide_eq_true rfl)))
          · intro hs51
            have hs51 : (⟨m, t, minor, fs⟩ : HeadV) = ⟨m, t, minor, fs⟩ := of_decide_eq_true (bnot_false hs51)
            refine AtL.move (.inr ⟨_, _, _, rfl, rfl, rfl, rfl⟩) rfl rfl ?_
            refine AtL.lenL Tryz.underlying22 (.inr ⟨_, _, _, rfl, rfl, rfl, rfl⟩) rfl rfl ?_
            refine AtL.gtr (.inr ⟨_, _, _, rfl, rfl, rfl, rfl⟩) rfl rfl rfl ?_
            refine AtL.pickF (.inl rfl) rfl rfl rfl ?_
            exact J _ (by exact ⟨(boolIs (by clear J; first | (simp [hs51]; done) | (simp_all; done) | grind)), rfl, rfl, trivial⟩)
        · skip
          refine AtL.done ?_
          refine At.cond rfl ?_ ?_
          · intro hc4
            have hc4 : 4096 < ((writeL ⟨m, t, minor, fs⟩).length : Int) := of_decide_eq_true hc4
            exfalso; revert hc4; have := hb1.2; simp; omega
          · intro hc4
            have hc4 : ¬ (4096 < ((writeL ⟨m, t, minor, fs⟩).length : Int)) := of_decide_eq_false hc4
            refine At.skip ?_
            refine At.seq ?_
            refine At.region ?_
            refine AtL.move (.inl rfl) rfl rfl ?_
            refine AtL.call tf_body57 (.inl rfl) rfl rfl (parse_known (b := b) hz (Rd.skip 4 h2) T) ?_
            rintro _ _ ⟨⟨A17, C18, l19, s20, o21⟩, hx22, rfl, rfl⟩
            obtain rfl : zf = l19 := hx22.symm
            refine AtL.move (.inl rfl) rfl rfl ?_
            refine AtL.extract (.inl rfl) rfl rfl rfl ?_
            refine AtL.extract (.inl rfl) rfl rfl rfl ?_
            refine AtL.alloc tf_zero35 (cs := #[str [], str [], .int .i64 0, .slice none 0 0]) rfl (.inl rfl) rfl ?_
            intro b23
            refine AtL.store (H' := [(b23, .cells #[str zm, str zt, .int .i64 zn, .slice A17 zf.length C18] 35 (0, 0))] :: s20 :: [(b16, .cells #[str m, str t, .int .i64 minor, .slice A10 fs.length C11] 35 (0, 0))] :: s13 :: s7 :: [(b1, .cells #[str m, str t, .int .i64 minor, .slice A fs.length C] 35 (0, 0))] :: H) 0 0 tf_sz35 (.inl rfl) rfl rfl rfl rfl rfl rfl rfl rfl rfl ?_
            refine AtL.assign (.inl rfl) rfl rfl ?_
            refine AtL.done ?_
            refine At.seq ?_
            refine At.seq ?_
            refine At.region ?_
            refine AtL.move (.inl rfl) rfl rfl ?_
            refine AtL.nei (.inl rfl) rfl rfl rfl ?_
            refine AtL.done ?_
            refine At.cond rfl ?_ ?_
            · intro hc5
              have hc5 : ¬ ((st : Int) = 200) := of_decide_eq_false (bnot_true hc5)
              have hzz := parse_zero hz hc5
              refine At.seq ?_
              refine At.region ?_
              refine AtL.move (.inl rfl) rfl rfl ?_
              refine AtL.move (.inl rfl) rfl rfl ?_
              refine AtL.loadN (cs := [str zm, str zt, .int .i64 zn, .slice A17 zf.length C18]) tf_agg35 (.inr ⟨_, _, _, rfl, rfl, rfl, rfl⟩) rfl rfl rfl (cellsOwn 0 0 0 rfl rfl rfl) ?_
              refine AtL.build (cs := [str [], str [], .int .i64 0, .slice none 0 0]) tf_lay35 (.inr ⟨_, _, _, rfl, rfl, rfl, rfl⟩) rfl rfl rfl ?_
              refine AtL.call tf_body37 (.inr ⟨_, _, _, rfl, rfl, rfl, rfl⟩) rfl rfl (samehead_ok (m := zm) (t := zt) (minor := zn) (m2 := []) (t2 := []) (minor2 := 0) (fs := zf) (gs := []) (o21.rd (i := 1) rfl) Rd.nil_) ?_
              rintro _ _ ⟨rfl, rfl⟩
              refine AtL.pickT (.inl rfl) rfl rfl rfl ?_
              refine AtL.assign (.inl rfl) rfl rfl ?_
              refine AtL.done ?_
              refine At.pick (H' := H) [] 6 rfl rfl ?_
              exact At.ret Tryz.func12 rfl rfl (⟨congrArg Value.bool (by first | exact decide_eq_true hzz | exact decide_eq_true (by have := z5 hc7; omega) | simp_all), rfl⟩)
            · intro hc5
              have hc5 : (st : Int) = 200 := of_decide_eq_true (bnot_false hc5)
              have hst : st = 200 := by simpa using hc5
              subst hst
              obtain ⟨z1, z2, z3, z4, z5⟩ := back_z hz
              dsimp only at z1 z2 z3 z4 z5
              refine At.skip ?_
              refine At.seq ?_
              refine At.seq ?_
              refine At.region ?_
              refine AtL.fieldAddrB tf_fo35_3 (.inl rfl) rfl rfl rfl ?_
              refine AtL.load tf_flat33 (.inl rfl) rfl rfl (Cell.own 0 0 rfl rfl rfl) ?_
              refine AtL.lenL Tryz.underlying33 (.inl rfl) rfl rfl ?_
              refine AtL.gtr (.inl rfl) rfl rfl rfl ?_
              refine AtL.move (.inl rfl) rfl rfl ?_
              refine AtL.join 4 (E' := [(77, .bool (decide ((32 < (zf.length : Int)) ∨ ((zn : Int) < 0)))), (1, .slice A2 b.length C2), (5, .bool true), (10, .pointer (some ⟨b23, 0, none⟩))]) (H' := [(b23, .cells #[str zm, str zt, .int .i64 zn, .slice A17 zf.length C18] 35 (0, 0))] :: s20 :: [(b16, .cells #[str m, str t, .int .i64 minor, .slice A10 fs.length C11] 35 (0, 0))] :: s13 :: s7 :: [(b1, .cells #[str m, str t, .int .i64 minor, .slice A fs.length C] 35 (0, 0))] :: H) (fun J => ?_) ?_
              · refine AtL.split (t := 73) rfl ?_ ?_
                · intro hs73
                  have hs73 : 32 < (zf.length : Int) := of_decide_eq_true hs73
                  refine AtL.skipped rfl rfl rfl rfl rfl rfl ?_
                  refine AtL.skipped rfl rfl rfl rfl rfl rfl ?_
                  refine AtL.skipped rfl rfl rfl rfl rfl rfl ?_
                  refine AtL.pickT (.inl rfl) rfl rfl rfl ?_
                  exact J _ (by exact ⟨(boolIs (by clear J; first | (simp [hs73]; done) | (simp_all; done) | grind)), rfl, rfl, rfl, trivial⟩)
                · intro hs73
                  have hs73 : ¬ (32 < (zf.length : Int)) := of_decide_eq_false hs73
                  refine AtL.fieldAddrB tf_fo35_2 (.inr ⟨_, _, _, rfl, rfl, rfl, rfl⟩) rfl rfl rfl ?_
                  refine AtL.load tf_flat3 (.inr ⟨_, _, _, rfl, rfl, rfl, rfl⟩) rfl rfl (Cell.own 0 0 rfl rfl rfl) ?_
                  refine AtL.lss (.inr ⟨_, _, _, rfl, rfl, rfl, rfl⟩) rfl rfl rfl ?_
                  refine AtL.pickF (.inl rfl) rfl rfl rfl ?_
                  exact J _ (by exact ⟨(boolIs (by clear J; first | (simp [hs73]; done) | (simp_all; done) | grind)), rfl, rfl, rfl, trivial⟩)
              · skip
                refine AtL.move (.inl rfl) rfl rfl ?_
                refine AtL.join 4 (E' := [(82, .bool (decide (((32 < (zf.length : Int)) ∨ ((zn : Int) < 0)) ∨ (1 < (zn : Int))))), (1, .slice A2 b.length C2), (5, .bool true), (10, .pointer (some ⟨b23, 0, none⟩))]) (H' := [(b23, .cells #[str zm, str zt, .int .i64 zn, .slice A17 zf.length C18] 35 (0, 0))] :: s20 :: [(b16, .cells #[str m, str t, .int .i64 minor, .slice A10 fs.length C11] 35 (0, 0))] :: s13 :: s7 :: [(b1, .cells #[str m, str t, .int .i64 minor, .slice A fs.length C] 35 (0, 0))] :: H) (fun J => ?_) ?_
                · refine AtL.split (t := 78) rfl ?_ ?_
                  · intro hs78
                    have hs78 : (32 < (zf.length : Int)) ∨ ((zn : Int) < 0) := of_decide_eq_true hs78
                    refine AtL.skipped rfl rfl rfl rfl rfl rfl ?_
                    refine AtL.skipped rfl rfl rfl rfl rfl rfl ?_
                    refine AtL.skipped rfl rfl rfl rfl rfl rfl ?_
                    refine AtL.pickT (.inl rfl) rfl rfl rfl ?_
                    exact J _ (by exact ⟨(boolIs (by clear J; first | (simp [hs78]; done) | (simp_all; done) | grind)), rfl, rfl, rfl, trivial⟩)
                  · intro hs78
                    have hs78 : ¬ ((32 < (zf.length : Int)) ∨ ((zn : Int) < 0)) := of_decide_eq_false hs78
                    refine AtL.fieldAddrB tf_fo35_2 (.inr ⟨_, _, _, rfl, rfl, rfl, rfl⟩) rfl rfl rfl ?_
                    refine AtL.load tf_flat3 (.inr ⟨_, _, _, rfl, rfl, rfl, rfl⟩) rfl rfl (Cell.own 0 0 rfl rfl rfl) ?_
                    refine AtL.gtr (.inr ⟨_, _, _, rfl, rfl, rfl, rfl⟩) rfl rfl rfl ?_
                    refine AtL.pickF (.inl rfl) rfl rfl rfl ?_
                    exact J _ (by exact ⟨(boolIs (by clear J; first | (simp [hs78]; done) | (simp_all; done) | grind)), rfl, rfl, rfl, trivial⟩)
                · skip
                  refine AtL.done ?_
                  refine At.cond rfl ?_ ?_
                  · intro hc6
                    have hc6 : ((32 < (zf.length : Int)) ∨ ((zn : Int) < 0)) ∨ (1 < (zn : Int)) := of_decide_eq_true hc6
                    exfalso; omega
                  · intro hc6
                    have hc6 : ¬ (((32 < (zf.length : Int)) ∨ ((zn : Int) < 0)) ∨ (1 < (zn : Int))) := of_decide_eq_false hc6
                    refine At.skip ?_
                    refine At.seq ?_
                    refine At.region ?_
                    refine AtL.loadN (cs := [str zm, str zt, .int .i64 zn, .slice A17 zf.length C18]) tf_agg35 (.inl rfl) rfl rfl rfl (cellsOwn 0 0 0 rfl rfl rfl) ?_
                    refine AtL.call tf_body33 (.inl rfl) rfl rfl (write_ok (m := zm) (t := zt) (minor := zn) (fs := zf) (o21.rd (i := 1) rfl) (by omega) (by omega)) ?_
                    rintro _ _ ⟨⟨A24, C25, l26, s27, o28⟩, hx29, rfl, rfl⟩
                    obtain rfl : writeL ⟨zm, zt, zn, zf⟩ = l26 := hx29.symm
                    refine AtL.move (.inl rfl) rfl rfl ?_
                    refine AtL.extract (.inl rfl) rfl rfl rfl ?_
                    refine AtL.extract (.inl rfl) rfl rfl rfl ?_
                    refine AtL.assign (.inl rfl) rfl rfl ?_
                    refine AtL.assign (.inl rfl) rfl rfl ?_
                    refine AtL.done ?_
                    refine At.seq ?_
                    refine At.seq ?_
                    refine At.region ?_
                    refine AtL.move (.inl rfl) rfl rfl ?_
                    refine AtL.nei (.inl rfl) rfl rfl rfl ?_
                    refine AtL.done ?_
                    refine At.cond rfl ?_ ?_
                    · intro hc7
                      have hc7 : ¬ ((writeE ⟨zm, zt, zn, zf⟩ : Int) = 0) := of_decide_eq_false (bnot_true hc7)
                      refine At.seq ?_
                      refine At.region ?_
                      refine AtL.move (.inl rfl) rfl rfl ?_
                      refine AtL.move (.inl rfl) rfl rfl ?_
                      refine AtL.move (.inr ⟨_, _, _, rfl, rfl, rfl, rfl⟩) rfl rfl ?_
                      refine AtL.lenL Tryz.underlying22 (.inr ⟨_, _, _, rfl, rfl, rfl, rfl⟩) rfl rfl ?_
                      refine AtL.gtr (.inr ⟨_, _, _, rfl, rfl, rfl, rfl⟩) rfl rfl rfl ?_
                      refine AtL.pickT (.inl rfl) rfl rfl rfl ?_
                      refine AtL.assign (.inl rfl) rfl rfl ?_
                      refine AtL.done ?_
                      refine At.pick (H' := H) [] 7 rfl rfl ?_
                      exact At.ret Tryz.func12 rfl rfl (⟨congrArg Value.bool (by first | exact decide_eq_true hzz | exact decide_eq_true (by have := z5 hc7; omega) | simp_all), rfl⟩)
                    · intro hc7
                      have hc7 : (writeE ⟨zm, zt, zn, zf⟩ : Int) = 0 := of_decide_eq_true (bnot_false hc7)
                      have hb2 := back_ok (h := ⟨zm, zt, zn, zf⟩) (by simpa using hc7)
                      refine At.skip ?_
                      refine At.seq ?_
                      refine At.region ?_
                      refine AtL.move (.inl rfl) rfl rfl ?_
                      refine AtL.call tf_body57 (.inl rfl) rfl rfl (parse_known (b := writeL ⟨zm, zt, zn, zf⟩) hb2.1 (o28.rd (i := 0) rfl) T) ?_
                      rintro _ _ ⟨⟨A30, C31, l32, s33, o34⟩, hx35, rfl, rfl⟩
                      obtain rfl : zf = l32 := hx35.symm
                      refine AtL.move (.inl rfl) rfl rfl ?_
                      refine AtL.extract (.inl rfl) rfl rfl rfl ?_
                      refine AtL.extract (.inl rfl) rfl rfl rfl ?_
                      refine AtL.alloc tf_zero35 (cs := #[str [], str [], .int .i64 0, .slice none 0 0]) rfl (.inl rfl) rfl ?_
                      intro b36
                      refine AtL.store (H' := [(b36, .cells #[str zm, str zt, .int .i64 zn, .slice A30 zf.length C31] 35 (0, 0))] :: s33 :: s27 :: [(b23, .cells #[str zm, str zt, .int .i64 zn, .slice A17 zf.length C18] 35 (0, 0))] :: s20 :: [(b16, .cells #[str m, str t, .int .i64 minor, .slice A10 fs.length C11] 35 (0, 0))] :: s13 :: s7 :: [(b1, .cells #[str m, str t, .int .i64 minor, .slice A fs.length C] 35 (0, 0))] :: H) 0 0 tf_sz35 (.inl rfl) rfl rfl rfl rfl rfl rfl rfl rfl rfl ?_
                      refine AtL.assign (.inl rfl) rfl rfl ?_
                      refine AtL.done ?_
                      refine At.seq ?_
                      refine At.region ?_
                      refine AtL.move (.inl rfl) rfl rfl ?_
                      refine AtL.move (.inl rfl) rfl rfl ?_
                      refine AtL.move (.inr ⟨_, _, _, rfl, rfl, rfl, rfl⟩) rfl rfl ?_
                      refine AtL.eqi (.inr ⟨_, _, _, rfl, rfl, rfl, rfl⟩) rfl rfl rfl ?_
                      refine AtL.pickT (.inl rfl) rfl rfl rfl ?_
                      refine AtL.move (.inl rfl) rfl rfl ?_
                      refine AtL.loadN (cs := [str zm, str zt, .int .i64 zn, .slice A30 zf.length C31]) tf_agg35 (.inr ⟨_, _, _, rfl, rfl, rfl, rfl⟩) rfl rfl rfl (cellsOwn 0 0 0 rfl rfl rfl) ?_
                      refine AtL.loadN (cs := [str zm, str zt, .int .i64 zn, .slice A17 zf.length C18]) tf_agg35 (.inr ⟨_, _, _, rfl, rfl, rfl, rfl⟩) rfl rfl rfl (cellsOwn 3 0 0 rfl rfl rfl) ?_
                      refine AtL.call tf_body37 (.inr ⟨_, _, _, rfl, rfl, rfl, rfl⟩) rfl rfl (samehead_ok (m := zm) (t := zt) (minor := zn) (m2 := zm) (t2 := zt) (minor2 := zn) (fs := zf) (gs := zf) (o34.rd (i := 1) rfl) (o21.rd (i := 4) rfl)) ?_
                      rintro _ _ ⟨rfl, rfl⟩
                      refine AtL.pickT (.inl rfl) rfl rfl rfl ?_
                      refine AtL.assign (.inl rfl) rfl rfl ?_
                      refine AtL.done ?_
                      refine At.pick (H' := H) [] 9 rfl rfl ?_
                      exact At.ret Tryz.func12 rfl rfl (⟨congrArg Value.bool (by first | exact decide_eq_true hzz | exact decide_eq_true (by have := z5 hc7; omega) | simp_all), rfl⟩)
      · intro hc3
        have hc3 : ¬ ((writeE ⟨m, t, minor, fs⟩ : Int) = 0) := of_decide_eq_false hc3
        refine At.skip ?_
        refine At.seq ?_
        refine At.region ?_
        refine AtL.move (.inl rfl) rfl rfl ?_
        refine AtL.call tf_body57 (.inl rfl) rfl rfl (parse_known (b := b) hz (Rd.skip 2 h2) T) ?_
        rintro _ _ ⟨⟨A37, C38, l39, s40, o41⟩, hx42, rfl, rfl⟩
        obtain rfl : zf = l39 := hx42.symm
        refine AtL.move (.inl rfl) rfl rfl ?_
        refine AtL.extract (.inl rfl) rfl rfl rfl ?_
        refine AtL.extract (.inl rfl) rfl rfl rfl ?_
        refine AtL.alloc tf_zero35 (cs := #[str [], str [], .int .i64 0, .slice none 0 0]) rfl (.inl rfl) rfl ?_
        intro b43
        refine AtL.store (H' := [(b43, .cells #[str zm, str zt, .int .i64 zn, .slice A37 zf.length C38] 35 (0, 0))] :: s40 :: s7 :: [(b1, .cells #[str m, str t, .int .i64 minor, .slice A fs.length C] 35 (0, 0))] :: H) 0 0 tf_sz35 (.inl rfl) rfl rfl rfl rfl rfl rfl rfl rfl rfl ?_
        refine AtL.assign (.inl rfl) rfl rfl ?_
        refine AtL.done ?_
        refine At.seq ?_
        refine At.seq ?_
        refine At.region ?_
        refine AtL.move (.inl rfl) rfl rfl ?_
        refine AtL.nei (.inl rfl) rfl rfl rfl ?_
        refine AtL.done ?_
        refine At.cond rfl ?_ ?_
        · intro hc5
          have hc5 : ¬ ((st : Int) = 200) := of_decide_eq_false (bnot_true hc5)
          have hzz := parse_zero hz hc5
          refine At.seq ?_
          refine At.region ?_
          refine AtL.move (.inl rfl) rfl rfl ?_
          refine AtL.move (.inl rfl) rfl rfl ?_
          refine AtL.loadN (cs := [str zm, str zt, .int .i64 zn, .slice A37 zf.length C38]) tf_agg35 (.inr ⟨_, _, _, rfl, rfl, rfl, rfl⟩) rfl rfl rfl (cellsOwn 0 0 0 rfl rfl rfl) ?_
          refine AtL.build (cs := [str [], str [], .int .i64 0, .slice none 0 0]) tf_lay35 (.inr ⟨_, _, _, rfl, rfl, rfl, rfl⟩) rfl rfl rfl ?_
          refine AtL.call tf_body37 (.inr ⟨_, _, _, rfl, rfl, rfl, rfl⟩) rfl rfl (samehead_ok (m := zm) (t := zt) (minor := zn) (m2 := []) (t2 := []) (minor2 := 0) (fs := zf) (gs := []) (o41.rd (i := 1) rfl) Rd.nil_) ?_
          rintro _ _ ⟨rfl, rfl⟩
          refine AtL.pickT (.inl rfl) rfl rfl rfl ?_
          refine AtL.assign (.inl rfl) rfl rfl ?_
          refine AtL.done ?_
          refine At.pick (H' := H) [] 4 rfl rfl ?_
          exact At.ret Tryz.func12 rfl rfl (⟨congrArg Value.bool (by first | exact decide_eq_true hzz | exact decide_eq_true (by have := z5 hc7; omega) | simp_all), rfl⟩)
        · intro hc5
          have hc5 : (st : Int) = 200 := of_decide_eq_true (bnot_false hc5)
          have hst : st = 200 := by simpa using hc5
          subst hst
          obtain ⟨z1, z2, z3, z4, z5⟩ := back_z hz
          dsimp only at z1 z2 z3 z4 z5
          refine At.skip ?_
          refine At.seq ?_
          refine At.seq ?_
          refine At.region ?_
          refine AtL.fieldAddrB tf_fo35_3 (.inl rfl) rfl rfl rfl ?_
          refine AtL.load tf_flat33 (.inl rfl) rfl rfl (Cell.own 0 0 rfl rfl rfl) ?_
          refine AtL.lenL Tryz.underlying33 (.inl rfl) rfl rfl ?_
          refine AtL.gtr (.inl rfl) rfl rfl rfl ?_
          refine AtL.move (.inl rfl) rfl rfl ?_
          refine AtL.join 4 (E' := [(77, .bool (decide ((32 < (zf.length : Int)) ∨ ((zn : Int) < 0)))), (1, .slice A2 b.length C2), (5, .bool true), (10, .pointer (some ⟨b43, 0, none⟩))]) (H' := [(b43, .cells #[str zm, str zt, .int .i64 zn, .slice A37 zf.length C38] 35 (0, 0))] :: s40 :: s7 :: [(b1, .cells #[str m, str t, .int .i64 minor, .slice A fs.length C] 35 (0, 0))] :: H) (fun J => ?_) ?_
          · refine AtL.split (t := 73) rfl ?_ ?_
            · intro hs73
              have hs73 : 32 < (zf.length : Int) := of_decide_eq_true hs73
              refine AtL.skipped rfl rfl rfl rfl rfl rfl ?_
              refine AtL.skipped rfl rfl rfl rfl rfl rfl ?_
              refine AtL.skipped rfl rfl rfl rfl rfl rfl ?_
              refine AtL.pickT (.inl rfl) rfl rfl rfl ?_
              exact J _ (by exact ⟨(boolIs (by clear J; first | (simp [hs73]; done) | (simp_all; done) | grind)), rfl, rfl, rfl, trivial⟩)
            · intro hs73
              have hs73 : ¬ (32 < (zf.length : Int)) := of_decide_eq_false hs73
              refine AtL.fieldAddrB tf_fo35_2 (.inr ⟨_, _, _, rfl, rfl, rfl, rfl⟩) rfl rfl rfl ?_
              refine AtL.load tf_flat3 (.inr ⟨_, _, _, rfl, rfl, rfl, rfl⟩) rfl rfl (Cell.own 0 0 rfl rfl rfl) ?_
              refine AtL.lss (.inr ⟨_, _, _, rfl, rfl, rfl, rfl⟩) rfl rfl rfl ?_
              refine AtL.pickF (.inl rfl) rfl rfl rfl ?_
              exact J _ (by exact ⟨(boolIs (by clear J; first | (simp [hs73]; done) | (simp_all; done) | grind)), rfl, rfl, rfl, trivial⟩)
          · skip
            refine AtL.move (.inl rfl) rfl rfl ?_
            refine AtL.join 4 (E' := [(82, .bool (decide (((32 < (zf.length : Int)) ∨ ((zn : Int) < 0)) ∨ (1 < (zn : Int))))), (1, .slice A2 b.length C2), (5, .bool true), (10, .pointer (some ⟨b43, 0, none⟩))]) (H' := [(b43, .cells #[str zm, str zt, .int .i64 zn, .slice A37 zf.length C38] 35 (0, 0))] :: s40 :: s7 :: [(b1, .cells #[str m, str t, .int .i64 minor, .slice A fs.length C] 35 (0, 0))] :: H) (fun J => ?_) ?_
            · refine AtL.split (t := 78) rfl ?_ ?_
              · intro hs78
                have hs78 : (32 < (zf.length : Int)) ∨ ((zn : Int) < 0) := of_decide_eq_true hs78
                refine AtL.skipped rfl rfl rfl rfl rfl rfl ?_
                refine AtL.skipped rfl rfl rfl rfl rfl rfl ?_
                refine AtL.skipped rfl rfl rfl rfl rfl rfl ?_
                refine AtL.pickT (.inl rfl) rfl rfl rfl ?_
                exact J _ (by exact ⟨(boolIs (by clear J; first | (simp [hs78]; done) | (simp_all; done) | grind)), rfl, rfl, rfl, trivial⟩)
              · intro hs78
                have hs78 : ¬ ((32 < (zf.length : Int)) ∨ ((zn : Int) < 0)) := of_decide_eq_false hs78
                refine AtL.fieldAddrB tf_fo35_2 (.inr ⟨_, _, _, rfl, rfl, rfl, rfl⟩) rfl rfl rfl ?_
                refine AtL.load tf_flat3 (.inr ⟨_, _, _, rfl, rfl, rfl, rfl⟩) rfl rfl (Cell.own 0 0 rfl rfl rfl) ?_
                refine AtL.gtr (.inr ⟨_, _, _, rfl, rfl, rfl, rfl⟩) rfl rfl rfl ?_
                refine AtL.pickF (.inl rfl) rfl rfl rfl ?_
                exact J _ (by exact ⟨(boolIs (by clear J; first | (simp [hs78]; done) | (simp_all; done) | grind)), rfl, rfl, rfl, trivial⟩)
            · skip
              refine AtL.done ?_
              refine At.cond rfl ?_ ?_
              · intro hc6
                have hc6 : ((32 < (zf.length : Int)) ∨ ((zn : Int) < 0)) ∨ (1 < (zn : Int)) := of_decide_eq_true hc6
                exfalso; omega
              · intro hc6
                have hc6 : ¬ (((32 < (zf.length : Int)) ∨ ((zn : Int) < 0)) ∨ (1 < (zn : Int))) := of_decide_eq_false hc6
                refine At.skip ?_
                refine At.seq ?_
                refine At.region ?_
                refine AtL.loadN (cs := [str zm, str zt, .int .i64 zn, .slice A37 zf.length C38]) tf_agg35 (.inl rfl) rfl rfl rfl (cellsOwn 0 0 0 rfl rfl rfl) ?_
                refine AtL.call tf_body33 (.inl rfl) rfl rfl (write_ok (m := zm) (t := zt) (minor := zn) (fs := zf) (o41.rd (i := 1) rfl) (by omega) (by omega)) ?_
                rintro _ _ ⟨⟨A44, C45, l46, s47, o48⟩, hx49, rfl, rfl⟩
                obtain rfl : writeL ⟨zm, zt, zn, zf⟩ = l46 := hx49.symm
                refine AtL.move (.inl rfl) rfl rfl ?_
                refine AtL.extract (.inl rfl) rfl rfl rfl ?_
                refine AtL.extract (.inl rfl) rfl rfl rfl ?_
                refine AtL.assign (.inl rfl) rfl rfl ?_
                refine AtL.assign (.inl rfl) rfl rfl ?_
                refine AtL.done ?_
                refine At.seq ?_
                refine At.seq ?_
                refine At.region ?_
                refine AtL.move (.inl rfl) rfl rfl ?_
                refine AtL.nei (.inl rfl) rfl rfl rfl ?_
                refine AtL.done ?_
                refine At.cond rfl ?_ ?_
                · intro hc7
                  have hc7 : ¬ ((writeE ⟨zm, zt, zn, zf⟩ : Int) = 0) := of_decide_eq_false (bnot_true hc7)
                  refine At.seq ?_
                  refine At.region ?_
                  refine AtL.move (.inl rfl) rfl rfl ?_
                  refine AtL.move (.inl rfl) rfl rfl ?_
                  refine AtL.move (.inr ⟨_, _, _, rfl, rfl, rfl, rfl⟩) rfl rfl ?_
                  refine AtL.lenL Tryz.underlying22 (.inr ⟨_, _, _, rfl, rfl, rfl, rfl⟩) rfl rfl ?_
                  refine AtL.gtr (.inr ⟨_, _, _, rfl, rfl, rfl, rfl⟩) rfl rfl rfl ?_
                  refine AtL.pickT (.inl rfl) rfl rfl rfl ?_
                  refine AtL.assign (.inl rfl) rfl rfl ?_
                  refine AtL.done ?_
                  refine At.pick (H' := H) [] 5 rfl rfl ?_
                  exact At.ret Tryz.func12 rfl rfl (⟨congrArg Value.bool (by first | exact decide_eq_true hzz | exact decide_eq_true (by have := z5 hc7; omega) | simp_all), rfl⟩)
                · intro hc7
                  have hc7 : (writeE ⟨zm, zt, zn, zf⟩ : Int) = 0 := of_decide_eq_true (bnot_false hc7)
                  have hb2 := back_ok (h := ⟨zm, zt, zn, zf⟩) (by simpa using hc7)
                  refine At.skip ?_
                  refine At.seq ?_
                  refine At.region ?_
                  refine AtL.move (.inl rfl) rfl rfl ?_
                  refine AtL.call tf_body57 (.inl rfl) rfl rfl (parse_known (b := writeL ⟨zm, zt, zn, zf⟩) hb2.1 (o48.rd (i := 0) rfl) T) ?_
                  rintro _ _ ⟨⟨A50, C51, l52, s53, o54⟩, hx55, rfl, rfl⟩
                  obtain rfl : zf = l52 := hx55.symm
                  refine AtL.move (.inl rfl) rfl rfl ?_
                  refine AtL.extract (.inl rfl) rfl rfl rfl ?_
                  refine AtL.extract (.inl rfl) rfl rfl rfl ?_
                  refine AtL.alloc tf_zero35 (cs := #[str [], str [], .int .i64 0, .slice none 0 0]) rfl (.inl rfl) rfl ?_
                  intro b56
                  refine AtL.store (H' := [(b56, .cells #[str zm, str zt, .int .i64 zn, .slice A50 zf.length C51] 35 (0, 0))] :: s53 :: s47 :: [(b43, .cells #[str zm, str zt, .int .i64 zn, .slice A37 zf.length C38] 35 (0, 0))] :: s40 :: s7 :: [(b1, .cells #[str m, str t, .int .i64 minor, .slice A fs.length C] 35 (0, 0))] :: H) 0 0 tf_sz35 (.inl rfl) rfl rfl rfl rfl rfl rfl rfl rfl rfl ?_
                  refine AtL.assign (.inl rfl) rfl rfl ?_
                  refine AtL.done ?_
                  refine At.seq ?_
                  refine At.region ?_
                  refine AtL.move (.inl rfl) rfl rfl ?_
                  refine AtL.move (.inl rfl) rfl rfl ?_
                  refine AtL.move (.inr ⟨_, _, _, rfl, rfl, rfl, rfl⟩) rfl rfl ?_
                  refine AtL.eqi (.inr ⟨_, _, _, rfl, rfl, rfl, rfl⟩) rfl rfl rfl ?_
                  refine AtL.pickT (.inl rfl) rfl rfl rfl ?_
                  refine AtL.move (.inl rfl) rfl rfl ?_
                  refine AtL.loadN (cs := [str zm, str zt, .int .i64 zn, .slice A50 zf.length C51]) tf_agg35 (.inr ⟨_, _, _, rfl, rfl, rfl, rfl⟩) rfl rfl rfl (cellsOwn 0 0 0 rfl rfl rfl) ?_
                  refine AtL.loadN (cs := [str zm, str zt, .int .i64 zn, .slice A37 zf.length C38]) tf_agg35 (.inr ⟨_, _, _, rfl, rfl, rfl, rfl⟩) rfl rfl rfl (cellsOwn 3 0 0 rfl rfl rfl) ?_
                  refine AtL.call tf_body37 (.inr ⟨_, _, _, rfl, rfl, rfl, rfl⟩) rfl rfl (samehead_ok (m := zm) (t := zt) (minor := zn) (m2 := zm) (t2 := zt) (minor2 := zn) (fs := zf) (gs := zf) (o54.rd (i := 1) rfl) (o41.rd (i := 4) rfl)) ?_
                  rintro _ _ ⟨rfl, rfl⟩
                  refine AtL.pickT (.inl rfl) rfl rfl rfl ?_
                  refine AtL.assign (.inl rfl) rfl rfl ?_
                  refine AtL.done ?_
                  refine At.pick (H' := H) [] 7 rfl rfl ?_
                  exact At.ret Tryz.func12 rfl rfl (⟨congrArg Value.bool (by first | exact decide_eq_true hzz | exact decide_eq_true (by have := z5 hc7; omega) | simp_all), rfl⟩)

end Go.Proofs.YtlfkoimkojbghaaGreatDoor
