/- RespBytes: the walk. -/
import Derived.Test.YtlfkoimkojbghaaGreatDoorTL1
namespace Go.Proofs.YtlfkoimkojbghaaGreatDoor
set_option linter.unusedVariables false
set_option linter.unusedSimpArgs false
set_option maxRecDepth 100000

theorem read_less {b : List UInt8} {R : RespV} {k : Nat} (hok : okR R = true) (hp : respB R <+: b) (hk : k < (respB R).length) : readF (subl b 0 k) 0 = (.zero, 0, 4) := by
  refine read_no (by omega) ?_
  rintro r ho hr
  have h1 : respB r <+: b := List.IsPrefix.trans hr (by rw [subl_to]; exact List.take_prefix k b)
  obtain ⟨t, ht⟩ := h1
  obtain ⟨t2, ht2⟩ := hp
  have e1 := rparse_back ho t
  have e2 := rparse_back hok t2
  rw [ht] at e1
  rw [ht2, e1] at e2
  cases e2
  have hl := hr.length_le
  rw [subl_to] at hl
  have h3 : ((b.take k).drop (0 : Int).toNat).length ≤ k := by rw [List.length_drop, List.length_take]; omega
  omega
theorem respB_pos (R : RespV) : 1 ≤ (respB R).length := by
  simp only [respB, headR, stB, H11, List.length_append, List.length_cons, List.length_nil]; omega
theorem pick_bd (x n : Int) (h : 1 ≤ n) : 0 ≤ pick x n ∧ pick x n < n := by
  rw [pick, if_neg (by omega)]
  exact ⟨Int.emod_nonneg _ (by omega), Int.emod_lt_of_pos _ (by omega)⟩
theorem zero_eq {R : RespV} (h : R = RespV.zero) : (⟨R.st, R.fs, R.body, R.keep⟩ : RespV) = ⟨0, [], [], false⟩ := h

set_option maxHeartbeats 400000 in
theorem respbytes_ok {w0 : World} {base : Nat} {H : List Seg} {A : Option Addr} {C : Nat} {b : List UInt8} (h : Rd tyB w0 base H A C b) (T : Tabs w0 base) (ET : ErrTab w0 base) (T10 : Tab10 w0 base) (less : Int) :
    SCalls Tryz.prog 6 [.slice A b.length C, .int .i64 less] w0 base (H) (fun v H' => v = .bool true ∧ H' = H) := by
  have hle0 := h.le
  have hcap0 := h.cap
  refine SCalls.of_walk (n := 76) Tryz.func6 rfl rfl rfl fun cs => ?_
  refine At.seq ?_
  refine At.region ?_
  refine AtL.assign (.inl rfl) rfl rfl ?_
  refine AtL.done ?_
  refine At.seq ?_
  refine At.region ?_
  refine AtL.call tf_body38 (.inl rfl) rfl rfl (awake15_ok T10) ?_
  rintro _ _ ⟨rfl, hHq⟩
  obtain rfl := hHq.symm
  refine AtL.assign (.inl rfl) rfl rfl ?_
  refine AtL.done ?_
  refine At.seq ?_
  refine At.seq ?_
  refine At.region ?_
  refine AtL.move (.inl rfl) rfl rfl ?_
  refine AtL.lenL Tryz.underlying22 (.inl rfl) rfl rfl ?_
  refine AtL.gtr (.inl rfl) rfl rfl rfl ?_
  refine AtL.done ?_
  refine At.cond rfl ?_ ?_
  · intro hc1
    have hc1 : 3000 < (b.length : Int) := of_decide_eq_true hc1
    refine At.seq ?_
    refine At.region ?_
    refine AtL.move (.inl rfl) rfl rfl ?_
    refine AtL.assign (.inl rfl) rfl rfl ?_
    refine AtL.done ?_
    exact At.ret Tryz.func6 rfl rfl (⟨rfl, rfl⟩)
  · intro hc1
    have hc1 : ¬ (3000 < (b.length : Int)) := of_decide_eq_false hc1
    refine At.skip ?_
    refine At.seq ?_
    refine At.region ?_
    refine AtL.move (.inl rfl) rfl rfl ?_
    refine AtL.call tf_body39 (.inl rfl) rfl rfl (read15_ok (b := b) 0 h (by omega) T ET T10) ?_
    rintro _ _ ⟨R11, hR12, ⟨A1, C2, l3, s4, o5⟩, ⟨A6, C7, l8, s9, o10⟩, hx13, hx14, rfl, rfl⟩
    have hR11 : R11 = (readF b 0).1 := hR12
    obtain rfl : R11.fs = l3 := hx13.symm
    obtain rfl : R11.body = l8 := hx14.symm
    have hRl := (readF_le (b := b) (a := 0))
    rw [← hR11] at hRl
    refine AtL.move (.inl rfl) rfl rfl ?_
    refine AtL.extract (.inl rfl) rfl rfl rfl ?_
    refine AtL.extract (.inl rfl) rfl rfl rfl ?_
    refine AtL.extract (.inl rfl) rfl rfl rfl ?_
    refine AtL.alloc tf_zero42 (cs := #[.int .i64 0, .slice none 0 0, .slice none 0 0, .bool false]) rfl (.inl rfl) rfl ?_
    intro b15
    refine AtL.store (H' := [(b15, .cells #[.int .i64 R11.st, .slice A1 R11.fs.length C2, .slice A6 R11.body.length C7, .bool R11.keep] 42 (0, 0))] :: s4 :: s9 :: H) 0 0 tf_sz42 (.inl rfl) rfl rfl rfl rfl rfl rfl rfl rfl rfl ?_
    refine AtL.assign (.inl rfl) rfl rfl ?_
    refine AtL.assign (.inl rfl) rfl rfl ?_
    refine AtL.done ?_
    refine At.seq ?_
    refine At.seq ?_
    refine At.region ?_
    refine AtL.move (.inl rfl) rfl rfl ?_
    refine AtL.nei (.inl rfl) rfl rfl rfl ?_
    refine AtL.done ?_
    refine At.cond rfl ?_ ?_
    · intro hc2
      have hc2 : ¬ (((readF b 0).2.2 : Int) = 0) := of_decide_eq_false (bnot_true hc2)
      obtain ⟨hz1, hz2⟩ := readF_bad hc2
      rw [← hR11] at hz1
      refine At.seq ?_
      refine At.region ?_
      refine AtL.move (.inl rfl) rfl rfl ?_
      refine AtL.move (.inl rfl) rfl rfl ?_
      refine AtL.loadN (cs := [.int .i64 R11.st, .slice A1 R11.fs.length C2, .slice A6 R11.body.length C7, .bool R11.keep]) tf_agg42 (.inr ⟨_, _, _, rfl, rfl, rfl, rfl⟩) rfl rfl rfl (cellsOwn 0 0 0 rfl rfl rfl) ?_
      refine AtL.build (cs := [.int .i64 0, .slice none 0 0, .slice none 0 0, .bool false]) tf_lay42 (.inr ⟨_, _, _, rfl, rfl, rfl, rfl⟩) rfl rfl rfl ?_
      refine AtL.call tf_body41 (.inr ⟨_, _, _, rfl, rfl, rfl, rfl⟩) rfl rfl (sameresp_ok (st := R11.st) (fs := R11.fs) (b := R11.body) (kp := R11.keep) (st2 := 0) (gs := []) (c := []) (kp2 := false) (o5.rd (i := 1) rfl) (o10.rd (i := 2) rfl) Rd.nil_ Rd.nil_) ?_
      rintro _ _ ⟨rfl, rfl⟩
      refine AtL.pickT (.inl rfl) rfl rfl rfl ?_
      refine AtL.move (.inl rfl) rfl rfl ?_
      refine AtL.join 3 (E' := [(36, .bool (decide (((⟨R11.st, R11.fs, R11.body, R11.keep⟩ : RespV) = ⟨0, [], [], false⟩) ∧ (((readF b 0).2.1 : Int) = 0))))]) (H' := [(b15, .cells #[.int .i64 R11.st, .slice A1 R11.fs.length C2, .slice A6 R11.body.length C7, .bool R11.keep] 42 (0, 0))] :: s4 :: s9 :: H) (fun J => ?_) ?_
      · refine AtL.split (t := 33) rfl ?_ ?_
        · intro hs33
          have hs33 : (⟨R11.st, R11.fs, R11.body, R11.keep⟩ : RespV) = ⟨0, [], [], false⟩ := of_decide_eq_true hs33
          refine AtL.move (.inr ⟨_, _, _, rfl, rfl, rfl, rfl⟩) rfl rfl ?_
          refine AtL.eqi (.inr ⟨_, _, _, rfl, rfl, rfl, rfl⟩) rfl rfl rfl ?_
          refine AtL.pickT (.inl rfl) rfl rfl rfl ?_
          exact J _ (by exact ⟨(boolIs (by clear J; first | (simp [hs33]; done) | (simp_all; done) | grind)), trivial⟩)
        · intro hs33
          have hs33 : ¬ ((⟨R11.st, R11.fs, R11.body, R11.keep⟩ : RespV) = ⟨0, [], [], false⟩) := of_decide_eq_false hs33
          refine AtL.skipped rfl rfl rfl rfl rfl rfl ?_
          refine AtL.skipped rfl rfl rfl rfl rfl rfl ?_
          refine AtL.pickF (.inl rfl) rfl rfl rfl ?_
          exact J _ (by exact ⟨(boolIs (by clear J; first | (simp [hs33]; done) | (simp_all; done) | grind)), trivial⟩)
      · skip
        refine AtL.assign (.inl rfl) rfl rfl ?_
        refine AtL.done ?_
        refine At.pick (H' := H) [] 3 rfl rfl ?_
        exact At.ret Tryz.func6 rfl rfl (⟨congrArg Value.bool (decide_eq_true ⟨zero_eq hz1, hz2⟩), rfl⟩)
    · intro hc2
      have hc2 : ((readF b 0).2.2 : Int) = 0 := of_decide_eq_true (bnot_false hc2)
      obtain ⟨_, _, hok, hpf, hn, hnl⟩ := readF_ok hc2
      rw [← hR11] at hok hpf hn hnl
      have hpos := respB_pos R11
      obtain ⟨N, hN⟩ : ∃ N, N = (respB R11).length := ⟨_, rfl⟩
      have hpf : respB R11 <+: b := hpf
      rw [← hN] at hn hnl hpos
      rw [Int.zero_add] at hn
      have hnl : N ≤ b.length := by simpa using hnl
      rw [hn]
      have hE : respE R11 = 0 := by rw [respE, if_pos hok]
      have hLs : respL R11 = subl b 0 N := by rw [respL, if_pos hok, subl_to, hN]; exact List.prefix_iff_eq_take.1 hpf
      refine At.skip ?_
      refine At.seq ?_
      refine At.seq ?_
      refine At.region ?_
      refine AtL.move (.inl rfl) rfl rfl ?_
      refine AtL.lss (.inl rfl) rfl rfl rfl ?_
      refine AtL.move (.inl rfl) rfl rfl ?_
      refine AtL.join 5 (E' := [(44, .bool (decide (((N : Int) < 1) ∨ ((b.length : Int) < (N : Int))))), (0, .slice A b.length C), (1, .int .i64 less), (5, .bool true), (6, .pointer (some ⟨b15, 0, none⟩)), (7, .int .i64 (N : Int))]) (H' := [(b15, .cells #[.int .i64 R11.st, .slice A1 R11.fs.length C2, .slice A6 R11.body.length C7, .bool R11.keep] 42 (0, 0))] :: s4 :: s9 :: H) (fun J => ?_) ?_
      · refine AtL.split (t := 39) rfl ?_ ?_
        · intro hs39
          have hs39 : (N : Int) < 1 := of_decide_eq_true hs39
          refine AtL.skipped rfl rfl rfl rfl rfl rfl ?_
          refine AtL.skipped rfl rfl rfl rfl rfl rfl ?_
          refine AtL.skipped rfl rfl rfl rfl rfl rfl ?_
          refine AtL.skipped rfl rfl rfl rfl rfl rfl ?_
          refine AtL.pickT (.inl rfl) rfl rfl rfl ?_
          exact J _ (by exact ⟨(boolIs (by clear J; first | (simp [hs39]; done) | (simp_all; done) | grind)), rfl, rfl, rfl, rfl, rfl, trivial⟩)
        · intro hs39
          have hs39 : ¬ ((N : Int) < 1) := of_decide_eq_false hs39
          refine AtL.move (.inr ⟨_, _, _, rfl, rfl, rfl, rfl⟩) rfl rfl ?_
          refine AtL.move (.inr ⟨_, _, _, rfl, rfl, rfl, rfl⟩) rfl rfl ?_
          refine AtL.lenL Tryz.underlying22 (.inr ⟨_, _, _, rfl, rfl, rfl, rfl⟩) rfl rfl ?_
          refine AtL.gtr (.inr ⟨_, _, _, rfl, rfl, rfl, rfl⟩) rfl rfl rfl ?_
          refine AtL.pickF (.inl rfl) rfl rfl rfl ?_
          exact J _ (by exact ⟨(boolIs (by clear J; first | (simp [hs39]; done) | (simp_all; done) | grind)), rfl, rfl, rfl, rfl, rfl, trivial⟩)
      · skip
        refine AtL.done ?_
        refine At.cond rfl ?_ ?_
        · intro hc3
          have hc3 : ((N : Int) < 1) ∨ ((b.length : Int) < (N : Int)) := of_decide_eq_true hc3
          exfalso; omega
        · intro hc3
          have hc3 : ¬ (((N : Int) < 1) ∨ ((b.length : Int) < (N : Int))) := of_decide_eq_false hc3
          refine At.skip ?_
          refine At.seq ?_
          refine At.region ?_
          refine AtL.loadN (cs := [.int .i64 R11.st, .slice A1 R11.fs.length C2, .slice A6 R11.body.length C7, .bool R11.keep]) tf_agg42 (.inl rfl) rfl rfl rfl (cellsOwn 0 0 0 rfl rfl rfl) ?_
          refine AtL.call tf_body42 (.inl rfl) rfl rfl (rwrite_okP (st := R11.st) (fs := R11.fs) (b := R11.body) (kp := R11.keep) (o5.rd (i := 1) rfl) (o10.rd (i := 2) rfl) (fun f hf => by have := hRl.1 f hf; omega) T10) ?_
          rintro _ _ ⟨⟨A16, C17, l18, s19, o20⟩, hx21, rfl, rfl⟩
          obtain rfl : respL ⟨R11.st, R11.fs, R11.body, R11.keep⟩ = l18 := hx21.symm
          refine AtL.move (.inl rfl) rfl rfl ?_
          refine AtL.extract (.inl rfl) rfl rfl rfl ?_
          refine AtL.extract (.inl rfl) rfl rfl rfl ?_
          refine AtL.assign (.inl rfl) rfl rfl ?_
          refine AtL.assign (.inl rfl) rfl rfl ?_
          refine AtL.done ?_
          refine At.seq ?_
          refine At.region ?_
          refine AtL.move (.inl rfl) rfl rfl ?_
          refine AtL.move (.inl rfl) rfl rfl ?_
          refine AtL.move (.inl rfl) rfl rfl ?_
          refine AtL.call tf_body43 (.inl rfl) rfl rfl (pick_ok less (N : Int) (by omega)) ?_
          rintro _ _ ⟨rfl, rfl⟩
          have hpk := pick_bd less (N : Int) (by omega)
          obtain ⟨k, hk⟩ : ∃ k : Nat, pick less (N : Int) = (k : Int) := ⟨_, (Int.toNat_of_nonneg hpk.1).symm⟩
          rw [hk] at hpk ⊢
          have hlessk := read_less (k := k) hok hpf (by omega)
          have hleo24 := Rd.le h
          refine AtL.sliceR 4 0 k C h rfl (evBound_some rfl rfl) rfl (by intro h; cases h) (by omega) (by omega) (by omega) (by omega) Tryz.underlying22 tf_sz5 (.inl rfl) rfl rfl ?_
          clear hleo24
          intro A22 C23 (o24 : Rd tyB w0 base H A22 C23 (subl b 0 k))
          have hlo24 : (subl b 0 k).length = k - 0 := subl_len (by omega)
          refine AtL.call tf_body39 (.inl rfl) rfl rfl (read15_ok (b := subl b 0 k) 0 (Rd.skip 4 o24) (by omega) T ET T10) ?_
          rintro _ _ ⟨R35, hR36, ⟨A25, C26, l27, s28, o29⟩, ⟨A30, C31, l32, s33, o34⟩, hx37, hx38, rfl, rfl⟩
          have hR35 : R35 = (readF (subl b 0 k) 0).1 := hR36
          obtain rfl : R35.fs = l27 := hx37.symm
          obtain rfl : R35.body = l32 := hx38.symm
          have hRl := (readF_le (b := subl b 0 k) (a := 0))
          rw [← hR35] at hRl
          refine AtL.move (.inl rfl) rfl rfl ?_
          refine AtL.extract (.inl rfl) rfl rfl rfl ?_
          refine AtL.extract (.inl rfl) rfl rfl rfl ?_
          refine AtL.extract (.inl rfl) rfl rfl rfl ?_
          refine AtL.alloc tf_zero42 (cs := #[.int .i64 0, .slice none 0 0, .slice none 0 0, .bool false]) rfl (.inl rfl) rfl ?_
          intro b39
          refine AtL.store (H' := [(b39, .cells #[.int .i64 R35.st, .slice A25 R35.fs.length C26, .slice A30 R35.body.length C31, .bool R35.keep] 42 (0, 0))] :: s28 :: s33 :: s19 :: [(b15, .cells #[.int .i64 R11.st, .slice A1 R11.fs.length C2, .slice A6 R11.body.length C7, .bool R11.keep] 42 (0, 0))] :: s4 :: s9 :: H) 0 0 tf_sz42 (.inl rfl) rfl rfl rfl rfl rfl rfl rfl rfl rfl ?_
          refine AtL.assign (.inl rfl) rfl rfl ?_
          refine AtL.assign (.inl rfl) rfl rfl ?_
          refine AtL.done ?_
          refine At.seq ?_
          refine At.region ?_
          refine AtL.move (.inl rfl) rfl rfl ?_
          refine AtL.move (.inl rfl) rfl rfl ?_
          refine AtL.move (.inr ⟨_, _, _, rfl, rfl, rfl, rfl⟩) rfl rfl ?_
          refine AtL.eqi (.inr ⟨_, _, _, rfl, rfl, rfl, rfl⟩) rfl rfl rfl ?_
          refine AtL.pickT (.inl rfl) rfl rfl rfl ?_
          refine AtL.move (.inl rfl) rfl rfl ?_
          refine AtL.join 6 (E' := [(71, .bool (decide (((respE ⟨R11.st, R11.fs, R11.body, R11.keep⟩ : Int) = 0) ∧ (respL ⟨R11.st, R11.fs, R11.body, R11.keep⟩ = subl b 0 N)))), (13, .int .i64 ((readF (subl b 0 k) 0).2.2))]) (H' := [(b39, .cells #[.int .i64 R35.st, .slice A25 R35.fs.length C26, .slice A30 R35.body.length C31, .bool R35.keep] 42 (0, 0))] :: s28 :: s33 :: s19 :: [(b15, .cells #[.int .i64 R11.st, .slice A1 R11.fs.length C2, .slice A6 R11.body.length C7, .bool R11.keep] 42 (0, 0))] :: s4 :: s9 :: H) (fun J => ?_) ?_
          · refine AtL.split (t := 65) rfl ?_ ?_
            · intro hs65
              have hs65 : (respE ⟨R11.st, R11.fs, R11.body, R11.keep⟩ : Int) = 0 := of_decide_eq_true hs65
              refine AtL.move (.inr ⟨_, _, _, rfl, rfl, rfl, rfl⟩) rfl rfl ?_
              refine AtL.move (.inr ⟨_, _, _, rfl, rfl, rfl, rfl⟩) rfl rfl ?_
              refine AtL.move (.inr ⟨_, _, _, rfl, rfl, rfl, rfl⟩) rfl rfl ?_
              have hleo42 := Rd.le h
              refine AtL.sliceR 7 0 N C h rfl (evBound_some rfl rfl) rfl (by intro h; cases h) (by omega) (by omega) (by omega) (by omega) Tryz.underlying22 tf_sz5 (.inr ⟨_, _, _, rfl, rfl, rfl, rfl⟩) rfl rfl ?_
              clear hleo42
              intro A40 C41 (o42 : Rd tyB w0 base H A40 C41 (subl b 0 N))
              have hlo42 : (subl b 0 N).length = N - 0 := subl_len (by omega)
              refine AtL.call tf_body27 (.inr ⟨_, _, _, rfl, rfl, rfl, rfl⟩) rfl rfl (same_ok (l := respL ⟨R11.st, R11.fs, R11.body, R11.keep⟩) (l2 := subl b 0 N) (o20.rd (i := 3) rfl) (Rd.skip 7 o42)) ?_
              rintro _ _ ⟨rfl, rfl⟩
              refine AtL.pickT (.inl rfl) rfl rfl rfl ?_
              exact J _ (by exact ⟨(boolIs (by clear J; first | (simp [hs65]; done) | (simp_all; done) | grind)), rfl, trivial⟩)
            · intro hs65
              have hs65 : ¬ ((respE ⟨R11.st, R11.fs, R11.body, R11.keep⟩ : Int) = 0) := of_decide_eq_false hs65
              refine AtL.skipped rfl rfl rfl rfl rfl rfl ?_
              refine AtL.skipped rfl rfl rfl rfl rfl rfl ?_
              refine AtL.skipped rfl rfl rfl rfl rfl rfl ?_
              refine AtL.skipped rfl rfl rfl rfl rfl rfl ?_
              refine AtL.skipped rfl rfl rfl rfl rfl rfl ?_
              refine AtL.pickF (.inl rfl) rfl rfl rfl ?_
              exact J _ (by exact ⟨(boolIs (by clear J; first | (simp [hs65]; done) | (simp_all; done) | grind)), rfl, trivial⟩)
          · skip
            refine AtL.move (.inl rfl) rfl rfl ?_
            refine AtL.join 3 (E' := [(75, .bool (decide ((((respE ⟨R11.st, R11.fs, R11.body, R11.keep⟩ : Int) = 0) ∧ (respL ⟨R11.st, R11.fs, R11.body, R11.keep⟩ = subl b 0 N)) ∧ (((readF (subl b 0 k) 0).2.2 : Int) = 4))))]) (H' := [(b39, .cells #[.int .i64 R35.st, .slice A25 R35.fs.length C26, .slice A30 R35.body.length C31, .bool R35.keep] 42 (0, 0))] :: s28 :: s33 :: s19 :: [(b15, .cells #[.int .i64 R11.st, .slice A1 R11.fs.length C2, .slice A6 R11.body.length C7, .bool R11.keep] 42 (0, 0))] :: s4 :: s9 :: H) (fun J => ?_) ?_
            · refine AtL.split (t := 72) rfl ?_ ?_
              · intro hs72
                have hs72 : ((respE ⟨R11.st, R11.fs, R11.body, R11.keep⟩ : Int) = 0) ∧ (respL ⟨R11.st, R11.fs, R11.body, R11.keep⟩ = subl b 0 N) := of_decide_eq_true hs72
                refine AtL.move (.inr ⟨_, _, _, rfl, rfl, rfl, rfl⟩) rfl rfl ?_
                refine AtL.eqi (.inr ⟨_, _, _, rfl, rfl, rfl, rfl⟩) rfl rfl rfl ?_
                refine AtL.pickT (.inl rfl) rfl rfl rfl ?_
                exact J _ (by exact ⟨(boolIs (by clear J; first | (simp [hs72]; done) | (simp_all; done) | grind)), trivial⟩)
              · intro hs72
                have hs72 : ¬ (((respE ⟨R11.st, R11.fs, R11.body, R11.keep⟩ : Int) = 0) ∧ (respL ⟨R11.st, R11.fs, R11.body, R11.keep⟩ = subl b 0 N)) := of_decide_eq_false hs72
                refine AtL.skipped rfl rfl rfl rfl rfl rfl ?_
                refine AtL.skipped rfl rfl rfl rfl rfl rfl ?_
                refine AtL.pickF (.inl rfl) rfl rfl rfl ?_
                exact J _ (by exact ⟨(boolIs (by clear J; first | (simp [hs72]; done) | (simp_all; done) | grind)), trivial⟩)
            · skip
              refine AtL.assign (.inl rfl) rfl rfl ?_
              refine AtL.done ?_
              refine At.pick (H' := H) [] 7 rfl rfl ?_
              exact At.ret Tryz.func6 rfl rfl (⟨congrArg Value.bool (by rw [hlessk]; simp [hE, hLs]), rfl⟩)

end Go.Proofs.YtlfkoimkojbghaaGreatDoor
