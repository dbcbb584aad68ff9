/- The answer beside heads: Parse. -/
import Derived.Test.YtlfkoimkojbghaaDoorR3
namespace Go.Proofs.YtlfkoimkojbghaaDoor
set_option linter.unusedVariables false
set_option linter.unusedSimpArgs false
set_option maxRecDepth 100000

theorem ver_one : ∀ b : Fin 256, 48 ≤ b.val → (¬ 49 < UInt8.ofNat b.val ↔ (UInt8.ofNat b.val = 48 ∨ UInt8.ofNat b.val = 49)) := by decide +kernel
theorem ver_two {b : UInt8} (h : 48 ≤ b) : (¬ 49 < b ↔ (b = 48 ∨ b = 49)) := by
  have := ver_one ⟨b.toNat, b.toNat_lt⟩ h
  simpa using this
theorem ver_list {v : List UInt8} (h : verF v = true) : v = [72, 84, 84, 80, 47, v.getD 5 0, 46, v.getD 7 0] := by
  simp only [verF, Bool.and_eq_true, decide_eq_true_eq] at h
  obtain ⟨⟨⟨⟨h1, h2⟩, h5⟩, h6⟩, h7⟩ := h
  match v, h1 with
  | [a, b, c, d, e, f, g, i], _ =>
    simp at h2 h6
    simp [h2, h6]
theorem ver_is {v : List UInt8} (h : verF v = true) : (¬ v = [72, 84, 84, 80, 47, 49, 46, 48] ∧ ¬ v = [72, 84, 84, 80, 47, 49, 46, 49]) ↔ (v.getD 5 0 ≠ 49 ∨ 49 < v.getD 7 0) := by
  have hl := ver_list h
  simp only [verF, Bool.and_eq_true, decide_eq_true_eq] at h
  obtain ⟨⟨⟨⟨h1, h2⟩, h5⟩, h6⟩, h7⟩ := h
  have hv2 := ver_two h7.1
  generalize v.getD 5 0 = a at hl
  generalize v.getD 7 0 = c at hl hv2
  subst hl
  by_cases ha : a = 49
  · subst ha
    have h3 : (¬ c = 48 ∧ ¬ c = 49) ↔ 49 < c := by
      rw [← not_or, ← hv2]; simp
    simpa using h3
  · simp [ha]
theorem cutC_at {x : List UInt8} {c : UInt8} {a : Nat} (h : ∀ j, j < a → x.getD j 0 ≠ c) (ha : a < x.length) (hc : x.getD a 0 = c) : cutC c x = some (x.take a, x.drop (a + 1)) := by
  induction x generalizing a with
  | nil => simp at ha
  | cons d x ih =>
    cases a with
    | zero => have hc : d = c := hc; subst hc; simp [cutC]
    | succ a =>
      have h0 : ¬ d = c := h 0 (by omega)
      rw [cutC, if_neg h0, ih (a := a) (fun j hj => by have := h (j + 1) (by omega); simpa using this) (by simpa using ha) (by simpa using hc)]
      simp
theorem cutC_no {x : List UInt8} {c : UInt8} (h : ∀ j, j < x.length → x.getD j 0 ≠ c) : cutC c x = none := by
  induction x with
  | nil => rfl
  | cons d x ih =>
    have h0 : ¬ d = c := h 0 (by simp)
    rw [cutC, if_neg h0, ih (fun j hj => by have := h (j + 1) (by simpa using hj); simpa using this)]
    rfl
theorem cut_at {x : List UInt8} {c : UInt8} {a : Nat} (h : ∀ j, j < a → x.getD j 0 ≠ c) (ha : a < x.length) (hc : x.getD a 0 = c) : (Lib.cut x [c]).2.2 = true ∧ (Lib.cut x [c]).1 = subl x 0 a ∧ (Lib.cut x [c]).2.1 = subl x (a + 1) x.length := by
  have h1 := cut_c c x
  rw [cutC_at h ha hc] at h1
  split at h1
  · rename_i h2
    simp only [Option.some.injEq, Prod.mk.injEq] at h1
    refine ⟨h2, ?_, ?_⟩
    · rw [← h1.1]; simp [subl]
    · rw [← h1.2]; unfold subl; rw [List.take_of_length_le (by simp)]
  · cases h1
theorem cut_at_no {x : List UInt8} {c : UInt8} (h : ∀ j, j < x.length → x.getD j 0 ≠ c) : (Lib.cut x [c]).2.2 = false := by
  have h1 := cut_c c x
  rw [cutC_no h] at h1
  split at h1
  · cases h1
  · rename_i h2; simpa using h2

set_option maxHeartbeats 400000 in
theorem rparse_ok {w0 : World} {base : Nat} {H : List Seg} {A : Option Addr} {C : Nat} {b : List UInt8} (h : Rd tyB w0 base H A C b) :
    SCalls Tryd.prog 42 [.slice A b.length C] w0 base (H) (fun v H' => ∃ x : Sl tyField 67, v = .tuple #[.agg #[str (parseF b).1.m, str (parseF b).1.t, int (parseF b).1.minor, .slice x.A x.l.length x.C], int (parseF b).2] ∧ x.l = (parseF b).1.fs ∧ H' = x.s :: H) := by
  have hcap := h.cap
  have hle := h.le
  refine SCalls.of_walk (n := 203) Tryd.func42 rfl rfl rfl fun cs => ?_
  refine At.seq ?_
  refine At.region ?_
  refine AtL.alloc tf_zero24 (cs := #[str [], str [], .int .i64 0, .slice none 0 0]) rfl (.inl rfl) rfl ?_
  intro b1
  refine AtL.assign (.inl rfl) rfl rfl ?_
  refine AtL.done ?_
  refine At.seq ?_
  refine At.seq ?_
  refine At.region ?_
  refine AtL.move (.inl rfl) rfl rfl ?_
  refine AtL.lenL Tryd.underlying25 (.inl rfl) rfl rfl ?_
  refine AtL.gtr (.inl rfl) rfl rfl rfl ?_
  refine AtL.done ?_
  refine At.cond rfl ?_ ?_
  · intro hc1
    have hc1 : 4096 < (b.length : Int) := of_decide_eq_true hc1
    refine At.seq ?_
    refine At.region ?_
    refine AtL.build (cs := [str [], str [], .int .i64 0, .slice none 0 0]) tf_lay24 (.inl rfl) rfl rfl rfl ?_
    refine AtL.store (H' := [(b1, .cells #[str [], str [], .int .i64 0, .slice none 0 0] 24 (0, 0))] :: H) 0 0 tf_sz24 (.inl rfl) rfl rfl rfl rfl rfl rfl rfl rfl rfl ?_
    refine AtL.assign (.inl rfl) rfl rfl ?_
    refine AtL.done ?_
    refine At.nil ?_
    have hp : parseF b = (.zero, 431) := by rw [parseF, if_pos (by omega)]
    exact At.retMP (vs := [.agg #[str [], str [], .int .i64 0, .slice none 0 0], .int .i64 431]) (H2 := [] :: H) [0] 2 rfl rfl Tryd.func42 rfl ⟨⟨_, rfl, LoadsTo.agg (cs := [str [], str [], .int .i64 0, .slice none 0 0]) tf_agg24 rfl (cellsOwn 1 0 0 rfl rfl rfl)⟩, rfl, trivial⟩ (⟨Sl.nil, by rw [hp]; rfl, by rw [hp]; rfl, rfl⟩)
  · intro hc1
    have hc1 : ¬ (4096 < (b.length : Int)) := of_decide_eq_false hc1
    refine At.skip ?_
    refine At.seq ?_
    refine At.region ?_
    refine AtL.move (.inl rfl) rfl rfl ?_
    refine AtL.call tf_body81 (.inl rfl) rfl rfl (rlines_ok (b := b) (Rd.skip 1 h) (by omega)) ?_
    rintro _ _ ⟨⟨A2, C3, l4, s5, o6⟩, rfl, hx7, rfl⟩
    have hlines : ∀ ls, linesF b = some ls → l4 = ls ++ [[]] := hx7
    refine AtL.move (.inl rfl) rfl rfl ?_
    refine AtL.extract (.inl rfl) rfl rfl rfl ?_
    refine AtL.extract (.inl rfl) rfl rfl rfl ?_
    refine AtL.assign (.inl rfl) rfl rfl ?_
    refine AtL.assign (.inl rfl) rfl rfl ?_
    refine AtL.done ?_
    refine At.seq ?_
    refine At.seq ?_
    refine At.region ?_
    refine AtL.move (.inl rfl) rfl rfl ?_
    refine AtL.not (.inl rfl) rfl rfl ?_
    refine AtL.move (.inl rfl) rfl rfl ?_
    refine AtL.join 4 (E' := [(26, .bool (decide ((((linesF b).isSome) = false) ∨ ((l4.length : Int) < 2)))), (2, .pointer (some ⟨b1, 0, none⟩)), (4, .slice A2 l4.length C3)]) (H' := s5 :: [(b1, .cells #[str [], str [], .int .i64 0, .slice none 0 0] 24 (0, 0))] :: H) (fun J => ?_) ?_
    · refine AtL.split (t := 22) rfl ?_ ?_
      · intro hs22
        have hs22 : ((linesF b).isSome) = false := bnot_true hs22
        refine AtL.skipped rfl rfl rfl rfl rfl rfl ?_
        refine AtL.skipped rfl rfl rfl rfl rfl rfl ?_
        refine AtL.skipped rfl rfl rfl rfl rfl rfl ?_
        refine AtL.pickT (.inl rfl) rfl rfl rfl ?_
        exact J _ (by exact ⟨(boolIs (by clear J; first | (simp [hs22]; done) | (simp_all; done) | grind)), rfl, rfl, trivial⟩)
      · intro hs22
        have hs22 : ((linesF b).isSome) = true := bnot_false hs22
        refine AtL.move (.inr ⟨_, _, _, rfl, rfl, rfl, rfl⟩) rfl rfl ?_
        refine AtL.lenL Tryd.underlying38 (.inr ⟨_, _, _, rfl, rfl, rfl, rfl⟩) rfl rfl ?_
        refine AtL.lss (.inr ⟨_, _, _, rfl, rfl, rfl, rfl⟩) rfl rfl rfl ?_
        refine AtL.pickF (.inl rfl) rfl rfl rfl ?_
        exact J _ (by exact ⟨(boolIs (by clear J; first | (simp [hs22]; done) | (simp_all; done) | grind)), rfl, rfl, trivial⟩)
    · skip
      refine AtL.done ?_
      refine At.cond rfl ?_ ?_
      · intro hc2
        have hc2 : (((linesF b).isSome) = false) ∨ ((l4.length : Int) < 2) := of_decide_eq_true hc2
        refine At.seq ?_
        refine At.region ?_
        refine AtL.build (cs := [str [], str [], .int .i64 0, .slice none 0 0]) tf_lay24 (.inl rfl) rfl rfl rfl ?_
        refine AtL.store (H' := s5 :: [(b1, .cells #[str [], str [], .int .i64 0, .slice none 0 0] 24 (0, 0))] :: H) 1 0 tf_sz24 (.inl rfl) rfl rfl rfl rfl rfl rfl rfl rfl rfl ?_
        refine AtL.assign (.inl rfl) rfl rfl ?_
        refine AtL.done ?_
        refine At.nil ?_
        have hp : parseF b = (.zero, 400) := by
          rw [parseF, if_neg (by omega)]
          cases hq : linesF b with
          | none => rfl
          | some q =>
            have hql := hlines q hq
            rw [hq] at hc2
            obtain rfl : q = [] := List.eq_nil_of_length_eq_zero (by rw [hql] at hc2; simp at hc2; omega)
            rfl
        exact At.retMP (vs := [.agg #[str [], str [], .int .i64 0, .slice none 0 0], .int .i64 400]) (H2 := [] :: H) [0] 3 rfl rfl Tryd.func42 rfl ⟨⟨_, rfl, LoadsTo.agg (cs := [str [], str [], .int .i64 0, .slice none 0 0]) tf_agg24 rfl (cellsOwn 2 0 0 rfl rfl rfl)⟩, rfl, trivial⟩ (⟨Sl.nil, by rw [hp]; rfl, by rw [hp]; rfl, rfl⟩)
      · intro hc2
        have hc2 : ¬ ((((linesF b).isSome) = false) ∨ ((l4.length : Int) < 2)) := of_decide_eq_false hc2
        obtain ⟨ls, hls⟩ : ∃ ls, linesF b = some ls := Option.isSome_iff_exists.1 (by cases hq : (linesF b).isSome <;> simp_all)
        have hll := hlines ls hls
        have hne : ls.length ≠ 0 := by intro h; have h2 := congrArg List.length hll; simp only [List.length_append, List.length_cons, List.length_nil] at h2; simp only [not_or] at hc2; exact hc2.2 (by omega)
        have hdl : (ls.drop 1).length = ls.length - 1 := by simp
        have hal : l4.length = ls.length + 1 := by rw [hll]; simp
        have hlb := lines_le hls
        have hp0 : parseF b = headF (ls.getD 0 []) (ls.drop 1) := by rw [parseF, if_neg (by omega), hls]; cases ls with | nil => simp at hne | cons a r => rfl
        have h0 : l4.getD 0 [] = ls.getD 0 [] := by rw [hll]; simp only [List.getD]; rw [List.getElem?_append_left (by omega)]
        have hl0 := hlb.1 (ls.getD 0 []) (getD_mem (l := ls) (i := 0) (by omega))
        have hw := spF_le 32 (ls.getD 0 [])
        have hWn : 0 < (spF 32 (ls.getD 0 [])).length := List.length_pos_iff.2 (spF_ne _ _)
        refine At.skip ?_
        refine At.seq ?_
        refine At.region ?_
        refine AtL.move (.inl rfl) rfl rfl ?_
        refine AtL.indexL 0 (o6.rd (i := 0) rfl) Tryd.underlying38 tf_sz9 (.inl rfl) rfl rfl rfl rfl (by omega) ?_
        refine AtL.load (v := str (l4.getD 0 [])) tf_flat9 (.inl rfl) rfl rfl (Rd.cell0 (o6.rd (i := 0) rfl) (getD_some [] (by omega)) rfl) ?_
        rw [h0]
        refine AtL.call tf_body82 (.inl rfl) rfl rfl (rsplit_32 (s := ls.getD 0 []) (by omega)) ?_
        rintro _ _ ⟨⟨A8, C9, l10, s11, o12⟩, hx13, rfl, rfl⟩
        obtain rfl : spF 32 (ls.getD 0 []) = l10 := hx13.symm
        refine AtL.assign (.inl rfl) rfl rfl ?_
        refine AtL.done ?_
        refine At.seq ?_
        refine At.seq ?_
        refine At.region ?_
        refine AtL.move (.inl rfl) rfl rfl ?_
        refine AtL.lenL Tryd.underlying38 (.inl rfl) rfl rfl ?_
        refine AtL.nei (.inl rfl) rfl rfl rfl ?_
        refine AtL.move (.inl rfl) rfl rfl ?_
        refine AtL.join 5 (E' := [(40, .bool (decide ((¬ (((spF 32 (ls.getD 0 [])).length : Int) = 3)) ∨ (((spF 32 (ls.getD 0 [])).getD 0 []) = [])))), (2, .pointer (some ⟨b1, 0, none⟩)), (4, .slice A2 l4.length C3), (6, .slice A8 (spF 32 (ls.getD 0 [])).length C9)]) (H' := s11 :: s5 :: [(b1, .cells #[str [], str [], .int .i64 0, .slice none 0 0] 24 (0, 0))] :: H) (fun J => ?_) ?_
        · refine AtL.split (t := 35) rfl ?_ ?_
          · intro hs35
            have hs35 : ¬ (((spF 32 (ls.getD 0 [])).length : Int) = 3) := of_decide_eq_false (bnot_true hs35)
            refine AtL.skipped rfl rfl rfl rfl rfl rfl ?_
            refine AtL.skipped rfl rfl rfl rfl rfl rfl ?_
            refine AtL.skipped rfl rfl rfl rfl rfl rfl ?_
            refine AtL.skipped rfl rfl rfl rfl rfl rfl ?_
            refine AtL.pickT (.inl rfl) rfl rfl rfl ?_
            exact J _ (by exact ⟨(boolIs (by clear J; first | (simp [hs35]; done) | (simp_all; done) | grind)), rfl, rfl, rfl, trivial⟩)
          · intro hs35
            have hs35 : ((spF 32 (ls.getD 0 [])).length : Int) = 3 := of_decide_eq_true (bnot_false hs35)
            refine AtL.move (.inr ⟨_, _, _, rfl, rfl, rfl, rfl⟩) rfl rfl ?_
            refine AtL.indexL 0 (o12.rd (i := 0) rfl) Tryd.underlying38 tf_sz9 (.inr ⟨_, _, _, rfl, rfl, rfl, rfl⟩) rfl rfl rfl rfl (by omega) ?_
            refine AtL.load (v := str ((spF 32 (ls.getD 0 [])).getD 0 [])) tf_flat9 (.inr ⟨_, _, _, rfl, rfl, rfl, rfl⟩) rfl rfl (Rd.cell0 (o12.rd (i := 0) rfl) (getD_some [] (by omega)) rfl) ?_
            refine AtL.eqs (a := ((spF 32 (ls.getD 0 [])).getD 0 [])) (b := []) (.inr ⟨_, _, _, rfl, rfl, rfl, rfl⟩) rfl rfl rfl ?_
            refine AtL.pickF (.inl rfl) rfl rfl rfl ?_
            exact J _ (by exact ⟨(boolIs (by clear J; first | (simp [hs35]; done) | (simp_all; done) | grind)), rfl, rfl, rfl, trivial⟩)
        · skip
          refine AtL.move (.inl rfl) rfl rfl ?_
          refine AtL.join 5 (E' := [(46, .bool (decide (((¬ (((spF 32 (ls.getD 0 [])).length : Int) = 3)) ∨ (((spF 32 (ls.getD 0 [])).getD 0 []) = [])) ∨ (((spF 32 (ls.getD 0 [])).getD 1 []) = [])))), (2, .pointer (some ⟨b1, 0, none⟩)), (4, .slice A2 l4.length C3), (6, .slice A8 (spF 32 (ls.getD 0 [])).length C9)]) (H' := s11 :: s5 :: [(b1, .cells #[str [], str [], .int .i64 0, .slice none 0 0] 24 (0, 0))] :: H) (fun J => ?_) ?_
          · refine AtL.split (t := 41) rfl ?_ ?_
            · intro hs41
              have hs41 : (¬ (((spF 32 (ls.getD 0 [])).length : Int) = 3)) ∨ (((spF 32 (ls.getD 0 [])).getD 0 []) = []) := of_decide_eq_true hs41
              refine AtL.skipped rfl rfl rfl rfl rfl rfl ?_
              refine AtL.skipped rfl rfl rfl rfl rfl rfl ?_
              refine AtL.skipped rfl rfl rfl rfl rfl rfl ?_
              refine AtL.skipped rfl rfl rfl rfl rfl rfl ?_
              refine AtL.pickT (.inl rfl) rfl rfl rfl ?_
              exact J _ (by exact ⟨(boolIs (by clear J; first | (simp [hs41]; done) | (simp_all; done) | grind)), rfl, rfl, rfl, trivial⟩)
            · intro hs41
              have hs41 : ¬ ((¬ (((spF 32 (ls.getD 0 [])).length : Int) = 3)) ∨ (((spF 32 (ls.getD 0 [])).getD 0 []) = [])) := of_decide_eq_false hs41
              have hW3 : (spF 32 (ls.getD 0 [])).length = 3 := by simp only [not_or, Classical.not_not] at hs41; omega
              refine AtL.move (.inr ⟨_, _, _, rfl, rfl, rfl, rfl⟩) rfl rfl ?_
              refine AtL.indexL 1 (o12.rd (i := 0) rfl) Tryd.underlying38 tf_sz9 (.inr ⟨_, _, _, rfl, rfl, rfl, rfl⟩) rfl rfl rfl rfl (by omega) ?_
              refine AtL.load (v := str ((spF 32 (ls.getD 0 [])).getD 1 [])) tf_flat9 (.inr ⟨_, _, _, rfl, rfl, rfl, rfl⟩) rfl rfl (Rd.cell0 (o12.rd (i := 0) rfl) (getD_some [] (by omega)) rfl) ?_
              refine AtL.eqs (a := ((spF 32 (ls.getD 0 [])).getD 1 [])) (b := []) (.inr ⟨_, _, _, rfl, rfl, rfl, rfl⟩) rfl rfl rfl ?_
              refine AtL.pickF (.inl rfl) rfl rfl rfl ?_
              exact J _ (by exact ⟨(boolIs (by clear J; first | (simp [hs41]; done) | (simp_all; done) | grind)), rfl, rfl, rfl, trivial⟩)
          · skip
            refine AtL.move (.inl rfl) rfl rfl ?_
            refine AtL.join 5 (E' := [(52, .bool (decide ((((¬ (((spF 32 (ls.getD 0 [])).length : Int) = 3)) ∨ (((spF 32 (ls.getD 0 [])).getD 0 []) = [])) ∨ (((spF 32 (ls.getD 0 [])).getD 1 []) = [])) ∨ (((spF 32 (ls.getD 0 [])).getD 2 []) = [])))), (2, .pointer (some ⟨b1, 0, none⟩)), (4, .slice A2 l4.length C3), (6, .slice A8 (spF 32 (ls.getD 0 [])).length C9)]) (H' := s11 :: s5 :: [(b1, .cells #[str [], str [], .int .i64 0, .slice none 0 0] 24 (0, 0))] :: H) (fun J => ?_) ?_
            · refine AtL.split (t := 47) rfl ?_ ?_
              · intro hs47
                have hs47 : ((¬ (((spF 32 (ls.getD 0 [])).length : Int) = 3)) ∨ (((spF 32 (ls.getD 0 [])).getD 0 []) = [])) ∨ (((spF 32 (ls.getD 0 [])).getD 1 []) = []) := of_decide_eq_true hs47
                refine AtL.skipped rfl rfl rfl rfl rfl rfl ?_
                refine AtL.skipped rfl rfl rfl rfl rfl rfl ?_
                refine AtL.skipped rfl rfl rfl rfl rfl rfl ?_
                refine AtL.skipped rfl rfl rfl rfl rfl rfl ?_
                refine AtL.pickT (.inl rfl) rfl rfl rfl ?_
                exact J _ (by exact ⟨(boolIs (by clear J; first | (simp [hs47]; done) | (simp_all; done) | grind)), rfl, rfl, rfl, trivial⟩)
              · intro hs47
                have hs47 : ¬ (((¬ (((spF 32 (ls.getD 0 [])).length : Int) = 3)) ∨ (((spF 32 (ls.getD 0 [])).getD 0 []) = [])) ∨ (((spF 32 (ls.getD 0 [])).getD 1 []) = [])) := of_decide_eq_false hs47
                have hW3 : (spF 32 (ls.getD 0 [])).length = 3 := by simp only [not_or, Classical.not_not] at hs47; omega
                refine AtL.move (.inr ⟨_, _, _, rfl, rfl, rfl, rfl⟩) rfl rfl ?_
                refine AtL.indexL 2 (o12.rd (i := 0) rfl) Tryd.underlying38 tf_sz9 (.inr ⟨_, _, _, rfl, rfl, rfl, rfl⟩) rfl rfl rfl rfl (by omega) ?_
                refine AtL.load (v := str ((spF 32 (ls.getD 0 [])).getD 2 [])) tf_flat9 (.inr ⟨_, _, _, rfl, rfl, rfl, rfl⟩) rfl rfl (Rd.cell0 (o12.rd (i := 0) rfl) (getD_some [] (by omega)) rfl) ?_
                refine AtL.eqs (a := ((spF 32 (ls.getD 0 [])).getD 2 [])) (b := []) (.inr ⟨_, _, _, rfl, rfl, rfl, rfl⟩) rfl rfl rfl ?_
                refine AtL.pickF (.inl rfl) rfl rfl rfl ?_
                exact J _ (by exact ⟨(boolIs (by clear J; first | (simp [hs47]; done) | (simp_all; done) | grind)), rfl, rfl, rfl, trivial⟩)
            · skip
              refine AtL.move (.inl rfl) rfl rfl ?_
              refine AtL.join 6 (E' := [(59, .bool (decide (((((¬ (((spF 32 (ls.getD 0 [])).length : Int) = 3)) ∨ (((spF 32 (ls.getD 0 [])).getD 0 []) = [])) ∨ (((spF 32 (ls.getD 0 [])).getD 1 []) = [])) ∨ (((spF 32 (ls.getD 0 [])).getD 2 []) = [])) ∨ ((wordF ((spF 32 (ls.getD 0 [])).getD 0 []) 16) = false)))), (2, .pointer (some ⟨b1, 0, none⟩)), (4, .slice A2 l4.length C3), (6, .slice A8 (spF 32 (ls.getD 0 [])).length C9)]) (H' := s11 :: s5 :: [(b1, .cells #[str [], str [], .int .i64 0, .slice none 0 0] 24 (0, 0))] :: H) (fun J => ?_) ?_
              · refine AtL.split (t := 53) rfl ?_ ?_
                · intro hs53
                  have hs53 : (((¬ (((spF 32 (ls.getD 0 [])).length : Int) = 3)) ∨ (((spF 32 (ls.getD 0 [])).getD 0 []) = [])) ∨ (((spF 32 (ls.getD 0 [])).getD 1 []) = [])) ∨ (((spF 32 (ls.getD 0 [])).getD 2 []) = []) := of_decide_eq_true hs53
                  refine AtL.skipped rfl rfl rfl rfl rfl rfl ?_
                  refine AtL.skipped rfl rfl rfl rfl rfl rfl ?_
                  refine AtL.skipped rfl rfl rfl rfl rfl rfl ?_
                  refine AtL.skipped rfl rfl rfl rfl rfl rfl ?_
                  refine AtL.skipped rfl rfl rfl rfl rfl rfl ?_
                  refine AtL.pickT (.inl rfl) rfl rfl rfl ?_
                  exact J _ (by exact ⟨(boolIs (by clear J; first | (simp [hs53]; done) | (simp_all; done) | grind)), rfl, rfl, rfl, trivial⟩)
                · intro hs53
                  have hs53 : ¬ ((((¬ (((spF 32 (ls.getD 0 [])).length : Int) = 3)) ∨ (((spF 32 (ls.getD 0 [])).getD 0 []) = [])) ∨ (((spF 32 (ls.getD 0 [])).getD 1 []) = [])) ∨ (((spF 32 (ls.getD 0 [])).getD 2 []) = [])) := of_decide_eq_false hs53
                  have hW3 : (spF 32 (ls.getD 0 [])).length = 3 := by simp only [not_or, Classical.not_not] at hs53; omega
                  refine AtL.move (.inr ⟨_, _, _, rfl, rfl, rfl, rfl⟩) rfl rfl ?_
                  refine AtL.indexL 0 (o12.rd (i := 0) rfl) Tryd.underlying38 tf_sz9 (.inr ⟨_, _, _, rfl, rfl, rfl, rfl⟩) rfl rfl rfl rfl (by omega) ?_
                  refine AtL.load (v := str ((spF 32 (ls.getD 0 [])).getD 0 [])) tf_flat9 (.inr ⟨_, _, _, rfl, rfl, rfl, rfl⟩) rfl rfl (Rd.cell0 (o12.rd (i := 0) rfl) (getD_some [] (by omega)) rfl) ?_
                  refine AtL.call tf_body70 (.inr ⟨_, _, _, rfl, rfl, rfl, rfl⟩) rfl rfl (rword_ok (l := ((spF 32 (ls.getD 0 [])).getD 0 [])) (by have := hw ((spF 32 (ls.getD 0 [])).getD 0 []) (getD_mem (l := spF 32 (ls.getD 0 [])) (i := 0) (by omega)); omega) 16) ?_
                  rintro _ _ ⟨rfl, rfl⟩
                  refine AtL.not (.inr ⟨_, _, _, rfl, rfl, rfl, rfl⟩) rfl rfl ?_
                  refine AtL.pickF (.inl rfl) rfl rfl rfl ?_
                  exact J _ (by exact ⟨(boolIs (by clear J; first | (simp [hs53]; done) | (simp_all; done) | grind)), rfl, rfl, rfl, trivial⟩)
              · skip
                refine AtL.done ?_
                refine At.cond rfl ?_ ?_
                · intro hc3
                  have hc3 : ((((¬ (((spF 32 (ls.getD 0 [])).length : Int) = 3)) ∨ (((spF 32 (ls.getD 0 [])).getD 0 []) = [])) ∨ (((spF 32 (ls.getD 0 [])).getD 1 []) = [])) ∨ (((spF 32 (ls.getD 0 [])).getD 2 []) = [])) ∨ ((wordF ((spF 32 (ls.getD 0 [])).getD 0 []) 16) = false) := of_decide_eq_true hc3
                  refine At.seq ?_
                  refine At.region ?_
                  refine AtL.build (cs := [str [], str [], .int .i64 0, .slice none 0 0]) tf_lay24 (.inl rfl) rfl rfl rfl ?_
                  refine AtL.store (H' := s11 :: s5 :: [(b1, .cells #[str [], str [], .int .i64 0, .slice none 0 0] 24 (0, 0))] :: H) 2 0 tf_sz24 (.inl rfl) rfl rfl rfl rfl rfl rfl rfl rfl rfl ?_
                  refine AtL.assign (.inl rfl) rfl rfl ?_
                  refine AtL.done ?_
                  refine At.nil ?_
                  have hp : parseF b = (.zero, 400) := by rw [hp0, headF_eq, if_pos (by rcases hc3 with (((h3 | h3) | h3) | h3) | h3; exact .inl (by omega); exact .inr (.inl h3); exact .inr (.inr (.inl h3)); exact .inr (.inr (.inr (.inl h3))); exact .inr (.inr (.inr (.inr h3))))]
                  exact At.retMP (vs := [.agg #[str [], str [], .int .i64 0, .slice none 0 0], .int .i64 400]) (H2 := [] :: H) [0] 4 rfl rfl Tryd.func42 rfl ⟨⟨_, rfl, LoadsTo.agg (cs := [str [], str [], .int .i64 0, .slice none 0 0]) tf_agg24 rfl (cellsOwn 3 0 0 rfl rfl rfl)⟩, rfl, trivial⟩ (⟨Sl.nil, by rw [hp]; rfl, by rw [hp]; rfl, rfl⟩)
                · intro hc3
                  have hc3 : ¬ (((((¬ (((spF 32 (ls.getD 0 [])).length : Int) = 3)) ∨ (((spF 32 (ls.getD 0 [])).getD 0 []) = [])) ∨ (((spF 32 (ls.getD 0 [])).getD 1 []) = [])) ∨ (((spF 32 (ls.getD 0 [])).getD 2 []) = [])) ∨ ((wordF ((spF 32 (ls.getD 0 [])).getD 0 []) 16) = false)) := of_decide_eq_false hc3
                  have hW3 : (spF 32 (ls.getD 0 [])).length = 3 := by simp only [not_or] at hc3; omega
                  have hn3 : ¬ (¬ (spF 32 (ls.getD 0 [])).length = 3 ∨ (spF 32 (ls.getD 0 [])).getD 0 [] = [] ∨ (spF 32 (ls.getD 0 [])).getD 1 [] = [] ∨ (spF 32 (ls.getD 0 [])).getD 2 [] = [] ∨ wordF ((spF 32 (ls.getD 0 [])).getD 0 []) 16 = false) := by simp only [not_or] at hc3 ⊢; exact ⟨by omega, hc3.1.1.1.2, hc3.1.1.2, hc3.1.2, by simpa using hc3.2⟩
                  refine At.skip ?_
                  refine At.seq ?_
                  refine At.region ?_
                  refine AtL.move (.inl rfl) rfl rfl ?_
                  refine AtL.indexL 2 (o12.rd (i := 0) rfl) Tryd.underlying38 tf_sz9 (.inl rfl) rfl rfl rfl rfl (by omega) ?_
                  refine AtL.load (v := str ((spF 32 (ls.getD 0 [])).getD 2 [])) tf_flat9 (.inl rfl) rfl rfl (Rd.cell0 (o12.rd (i := 0) rfl) (getD_some [] (by omega)) rfl) ?_
                  refine AtL.assign (.inl rfl) rfl rfl ?_
                  refine AtL.done ?_
                  refine At.seq ?_
                  refine At.seq ?_
                  refine At.region ?_
                  refine AtL.move (.inl rfl) rfl rfl ?_
                  refine AtL.lenS (l := ((spF 32 (ls.getD 0 [])).getD 2 [])) Tryd.underlying9 (.inl rfl) rfl rfl ?_
                  refine AtL.nei (.inl rfl) rfl rfl rfl ?_
                  refine AtL.move (.inl rfl) rfl rfl ?_
                  refine AtL.join 4 (E' := [(71, .bool (decide ((¬ ((((spF 32 (ls.getD 0 [])).getD 2 []).length : Int) = 8)) ∨ (¬ (subl ((spF 32 (ls.getD 0 [])).getD 2 []) 0 5 = [72, 84, 84, 80, 47]))))), (2, .pointer (some ⟨b1, 0, none⟩)), (4, .slice A2 l4.length C3), (6, .slice A8 (spF 32 (ls.getD 0 [])).length C9), (7, str ((spF 32 (ls.getD 0 [])).getD 2 []))]) (H' := s11 :: s5 :: [(b1, .cells #[str [], str [], .int .i64 0, .slice none 0 0] 24 (0, 0))] :: H) (fun J => ?_) ?_
                  · refine AtL.split (t := 67) rfl ?_ ?_
                    · intro hs67
                      have hs67 : ¬ ((((spF 32 (ls.getD 0 [])).getD 2 []).length : Int) = 8) := of_decide_eq_false (bnot_true hs67)
                      refine AtL.skipped rfl rfl rfl rfl rfl rfl ?_
                      refine AtL.skipped rfl rfl rfl rfl rfl rfl ?_
                      refine AtL.skipped rfl rfl rfl rfl rfl rfl ?_
                      refine AtL.pickT (.inl rfl) rfl rfl rfl ?_
                      exact J _ (by exact ⟨(boolIs (by clear J; first | (simp [hs67]; done) | (simp_all; done) | grind)), rfl, rfl, rfl, rfl, trivial⟩)
                    · intro hs67
                      have hs67 : (((spF 32 (ls.getD 0 [])).getD 2 []).length : Int) = 8 := of_decide_eq_true (bnot_false hs67)
                      refine AtL.move (.inr ⟨_, _, _, rfl, rfl, rfl, rfl⟩) rfl rfl ?_
                      refine AtL.sliceS (l := ((spF 32 (ls.getD 0 [])).getD 2 [])) 0 5 rfl (evBound_some rfl rfl) (by omega) (by omega) Tryd.underlying9 (.inr ⟨_, _, _, rfl, rfl, rfl, rfl⟩) rfl rfl ?_
                      refine AtL.nes (a := subl ((spF 32 (ls.getD 0 [])).getD 2 []) 0 5) (b := [72, 84, 84, 80, 47]) (.inr ⟨_, _, _, rfl, rfl, rfl, rfl⟩) rfl rfl rfl ?_
                      refine AtL.pickF (.inl rfl) rfl rfl rfl ?_
                      exact J _ (by exact ⟨(boolIs (by clear J; first | (simp [hs67]; done) | (simp_all; done) | grind)), rfl, rfl, rfl, rfl, trivial⟩)
                  · skip
                    refine AtL.move (.inl rfl) rfl rfl ?_
                    refine AtL.join 5 (E' := [(77, .bool (decide (((¬ ((((spF 32 (ls.getD 0 [])).getD 2 []).length : Int) = 8)) ∨ (¬ (subl ((spF 32 (ls.getD 0 [])).getD 2 []) 0 5 = [72, 84, 84, 80, 47]))) ∨ (¬ (48 ≤ ((((spF 32 (ls.getD 0 [])).getD 2 []).getD 5 0).toNat : Int) ∧ ((((spF 32 (ls.getD 0 [])).getD 2 []).getD 5 0).toNat : Int) ≤ 57))))), (2, .pointer (some ⟨b1, 0, none⟩)), (4, .slice A2 l4.length C3), (6, .slice A8 (spF 32 (ls.getD 0 [])).length C9), (7, str ((spF 32 (ls.getD 0 [])).getD 2 []))]) (H' := s11 :: s5 :: [(b1, .cells #[str [], str [], .int .i64 0, .slice none 0 0] 24 (0, 0))] :: H) (fun J => ?_) ?_
                    · refine AtL.split (t := 72) rfl ?_ ?_
                      · intro hs72
                        have hs72 : (¬ ((((spF 32 (ls.getD 0 [])).getD 2 []).length : Int) = 8)) ∨ (¬ (subl ((spF 32 (ls.getD 0 [])).getD 2 []) 0 5 = [72, 84, 84, 80, 47])) := of_decide_eq_true hs72
                        refine AtL.skipped rfl rfl rfl rfl rfl rfl ?_
                        refine AtL.skipped rfl rfl rfl rfl rfl rfl ?_
                        refine AtL.skipped rfl rfl rfl rfl rfl rfl ?_
                        refine AtL.skipped rfl rfl rfl rfl rfl rfl ?_
                        refine AtL.pickT (.inl rfl) rfl rfl rfl ?_
                        exact J _ (by exact ⟨(boolIs (by clear J; first | (simp [hs72]; done) | (simp_all; done) | grind)), rfl, rfl, rfl, rfl, trivial⟩)
                      · intro hs72
                        have hs72 : ¬ ((¬ ((((spF 32 (ls.getD 0 [])).getD 2 []).length : Int) = 8)) ∨ (¬ (subl ((spF 32 (ls.getD 0 [])).getD 2 []) 0 5 = [72, 84, 84, 80, 47]))) := of_decide_eq_false hs72
                        have h8 : ((spF 32 (ls.getD 0 [])).getD 2 []).length = 8 := by simp only [not_or, Classical.not_not] at hs72; omega
                        refine AtL.move (.inr ⟨_, _, _, rfl, rfl, rfl, rfl⟩) rfl rfl ?_
                        refine AtL.indexS (l := ((spF 32 (ls.getD 0 [])).getD 2 [])) 5 rfl (by omega) Tryd.underlying9 (.inr ⟨_, _, _, rfl, rfl, rfl, rfl⟩) rfl rfl rfl ?_
                        refine AtL.call tf_body83 (.inr ⟨_, _, _, rfl, rfl, rfl, rfl⟩) rfl rfl (rdigit_ok (((spF 32 (ls.getD 0 [])).getD 2 []).getD 5 0)) ?_
                        rintro _ _ ⟨rfl, rfl⟩
                        refine AtL.not (.inr ⟨_, _, _, rfl, rfl, rfl, rfl⟩) rfl rfl ?_
                        refine AtL.pickF (.inl rfl) rfl rfl rfl ?_
                        exact J _ (by exact ⟨(boolIs (by clear J; first | (simp [hs72]; done) | (simp_all; done) | grind)), rfl, rfl, rfl, rfl, trivial⟩)
                    · skip
                      refine AtL.move (.inl rfl) rfl rfl ?_
                      refine AtL.join 4 (E' := [(82, .bool (decide ((((¬ ((((spF 32 (ls.getD 0 [])).getD 2 []).length : Int) = 8)) ∨ (¬ (subl ((spF 32 (ls.getD 0 [])).getD 2 []) 0 5 = [72, 84, 84, 80, 47]))) ∨ (¬ (48 ≤ ((((spF 32 (ls.getD 0 [])).getD 2 []).getD 5 0).toNat : Int) ∧ ((((spF 32 (ls.getD 0 [])).getD 2 []).getD 5 0).toNat : Int) ≤ 57))) ∨ (¬ (((((spF 32 (ls.getD 0 [])).getD 2 []).getD 6 0).toNat : Int) = 46))))), (2, .pointer (some ⟨b1, 0, none⟩)), (4, .slice A2 l4.length C3), (6, .slice A8 (spF 32 (ls.getD 0 [])).length C9), (7, str ((spF 32 (ls.getD 0 [])).getD 2 []))]) (H' := s11 :: s5 :: [(b1, .cells #[str [], str [], .int .i64 0, .slice none 0 0] 24 (0, 0))] :: H) (fun J => ?_) ?_
                      · refine AtL.split (t := 78) rfl ?_ ?_
                        · intro hs78
                          have hs78 : ((¬ ((((spF 32 (ls.getD 0 [])).getD 2 []).length : Int) = 8)) ∨ (¬ (subl ((spF 32 (ls.getD 0 [])).getD 2 []) 0 5 = [72, 84, 84, 80, 47]))) ∨ (¬ (48 ≤ ((((spF 32 (ls.getD 0 [])).getD 2 []).getD 5 0).toNat : Int) ∧ ((((spF 32 (ls.getD 0 [])).getD 2 []).getD 5 0).toNat : Int) ≤ 57)) := of_decide_eq_true hs78
                          refine AtL.skipped rfl rfl rfl rfl rfl rfl ?_
                          refine AtL.skipped rfl rfl rfl rfl rfl rfl ?_
                          refine AtL.skipped rfl rfl rfl rfl rfl rfl ?_
                          refine AtL.pickT (.inl rfl) rfl rfl rfl ?_
                          exact J _ (by exact ⟨(boolIs (by clear J; first | (simp [hs78]; done) | (simp_all; done) | grind)), rfl, rfl, rfl, rfl, trivial⟩)
                        · intro hs78
                          have hs78 : ¬ (((¬ ((((spF 32 (ls.getD 0 [])).getD 2 []).length : Int) = 8)) ∨ (¬ (subl ((spF 32 (ls.getD 0 [])).getD 2 []) 0 5 = [72, 84, 84, 80, 47]))) ∨ (¬ (48 ≤ ((((spF 32 (ls.getD 0 [])).getD 2 []).getD 5 0).toNat : Int) ∧ ((((spF 32 (ls.getD 0 [])).getD 2 []).getD 5 0).toNat : Int) ≤ 57))) := of_decide_eq_false hs78
                          have h8 : ((spF 32 (ls.getD 0 [])).getD 2 []).length = 8 := by simp only [not_or, Classical.not_not] at hs78; omega
                          refine AtL.move (.inr ⟨_, _, _, rfl, rfl, rfl, rfl⟩) rfl rfl ?_
                          refine AtL.indexS (l := ((spF 32 (ls.getD 0 [])).getD 2 [])) 6 rfl (by omega) Tryd.underlying9 (.inr ⟨_, _, _, rfl, rfl, rfl, rfl⟩) rfl rfl rfl ?_
                          refine AtL.nei (.inr ⟨_, _, _, rfl, rfl, rfl, rfl⟩) rfl rfl rfl ?_
                          refine AtL.pickF (.inl rfl) rfl rfl rfl ?_
                          exact J _ (by exact ⟨(boolIs (by clear J; first | (simp [hs78]; done) | (simp_all; done) | grind)), rfl, rfl, rfl, rfl, trivial⟩)
                      · skip
                        refine AtL.move (.inl rfl) rfl rfl ?_
                        refine AtL.join 5 (E' := [(88, .bool (decide (((((¬ ((((spF 32 (ls.getD 0 [])).getD 2 []).length : Int) = 8)) ∨ (¬ (subl ((spF 32 (ls.getD 0 [])).getD 2 []) 0 5 = [72, 84, 84, 80, 47]))) ∨ (¬ (48 ≤ ((((spF 32 (ls.getD 0 [])).getD 2 []).getD 5 0).toNat : Int) ∧ ((((spF 32 (ls.getD 0 [])).getD 2 []).getD 5 0).toNat : Int) ≤ 57))) ∨ (¬ (((((spF 32 (ls.getD 0 [])).getD 2 []).getD 6 0).toNat : Int) = 46))) ∨ (¬ (48 ≤ ((((spF 32 (ls.getD 0 [])).getD 2 []).getD 7 0).toNat : Int) ∧ ((((spF 32 (ls.getD 0 [])).getD 2 []).getD 7 0).toNat : Int) ≤ 57))))), (2, .pointer (some ⟨b1, 0, none⟩)), (4, .slice A2 l4.length C3), (6, .slice A8 (spF 32 (ls.getD 0 [])).length C9), (7, str ((spF 32 (ls.getD 0 [])).getD 2 []))]) (H' := s11 :: s5 :: [(b1, .cells #[str [], str [], .int .i64 0, .slice none 0 0] 24 (0, 0))] :: H) (fun J => ?_) ?_
                        · refine AtL.split (t := 83) rfl ?_ ?_
                          · intro hs83
                            have hs83 : (((¬ ((((spF 32 (ls.getD 0 [])).getD 2 []).length : Int) = 8)) ∨ (¬ (subl ((spF 32 (ls.getD 0 [])).getD 2 []) 0 5 = [72, 84, 84, 80, 47]))) ∨ (¬ (48 ≤ ((((spF 32 (ls.getD 0 [])).getD 2 []).getD 5 0).toNat : Int) ∧ ((((spF 32 (ls.getD 0 [])).getD 2 []).getD 5 0).toNat : Int) ≤ 57))) ∨ (¬ (((((spF 32 (ls.getD 0 [])).getD 2 []).getD 6 0).toNat : Int) = 46)) := of_decide_eq_true hs83
                            refine AtL.skipped rfl rfl rfl rfl rfl rfl ?_
                            refine AtL.skipped rfl rfl rfl rfl rfl rfl ?_
                            refine AtL.skipped rfl rfl rfl rfl rfl rfl ?_
                            refine AtL.skipped rfl rfl rfl rfl rfl rfl ?_
                            refine AtL.pickT (.inl rfl) rfl rfl rfl ?_
                            exact J _ (by exact ⟨(boolIs (by clear J; first | (simp [hs83]; done) | (simp_all; done) | grind)), rfl, rfl, rfl, rfl, trivial⟩)
                          · intro hs83
                            have hs83 : ¬ ((((¬ ((((spF 32 (ls.getD 0 [])).getD 2 []).length : Int) = 8)) ∨ (¬ (subl ((spF 32 (ls.getD 0 [])).getD 2 []) 0 5 = [72, 84, 84, 80, 47]))) ∨ (¬ (48 ≤ ((((spF 32 (ls.getD 0 [])).getD 2 []).getD 5 0).toNat : Int) ∧ ((((spF 32 (ls.getD 0 [])).getD 2 []).getD 5 0).toNat : Int) ≤ 57))) ∨ (¬ (((((spF 32 (ls.getD 0 [])).getD 2 []).getD 6 0).toNat : Int) = 46))) := of_decide_eq_false hs83
                            have h8 : ((spF 32 (ls.getD 0 [])).getD 2 []).length = 8 := by simp only [not_or, Classical.not_not] at hs83; omega
                            refine AtL.move (.inr ⟨_, _, _, rfl, rfl, rfl, rfl⟩) rfl rfl ?_
                            refine AtL.indexS (l := ((spF 32 (ls.getD 0 [])).getD 2 [])) 7 rfl (by omega) Tryd.underlying9 (.inr ⟨_, _, _, rfl, rfl, rfl, rfl⟩) rfl rfl rfl ?_
                            refine AtL.call tf_body83 (.inr ⟨_, _, _, rfl, rfl, rfl, rfl⟩) rfl rfl (rdigit_ok (((spF 32 (ls.getD 0 [])).getD 2 []).getD 7 0)) ?_
                            rintro _ _ ⟨rfl, rfl⟩
                            refine AtL.not (.inr ⟨_, _, _, rfl, rfl, rfl, rfl⟩) rfl rfl ?_
                            refine AtL.pickF (.inl rfl) rfl rfl rfl ?_
                            exact J _ (by exact ⟨(boolIs (by clear J; first | (simp [hs83]; done) | (simp_all; done) | grind)), rfl, rfl, rfl, rfl, trivial⟩)
                        · skip
                          refine AtL.done ?_
                          refine At.cond rfl ?_ ?_
                          · intro hc4
                            have hc4 : ((((¬ ((((spF 32 (ls.getD 0 [])).getD 2 []).length : Int) = 8)) ∨ (¬ (subl ((spF 32 (ls.getD 0 [])).getD 2 []) 0 5 = [72, 84, 84, 80, 47]))) ∨ (¬ (48 ≤ ((((spF 32 (ls.getD 0 [])).getD 2 []).getD 5 0).toNat : Int) ∧ ((((spF 32 (ls.getD 0 [])).getD 2 []).getD 5 0).toNat : Int) ≤ 57))) ∨ (¬ (((((spF 32 (ls.getD 0 [])).getD 2 []).getD 6 0).toNat : Int) = 46))) ∨ (¬ (48 ≤ ((((spF 32 (ls.getD 0 [])).getD 2 []).getD 7 0).toNat : Int) ∧ ((((spF 32 (ls.getD 0 [])).getD 2 []).getD 7 0).toNat : Int) ≤ 57)) := of_decide_eq_true hc4
                            refine At.seq ?_
                            refine At.region ?_
                            refine AtL.build (cs := [str [], str [], .int .i64 0, .slice none 0 0]) tf_lay24 (.inl rfl) rfl rfl rfl ?_
                            refine AtL.store (H' := s11 :: s5 :: [(b1, .cells #[str [], str [], .int .i64 0, .slice none 0 0] 24 (0, 0))] :: H) 2 0 tf_sz24 (.inl rfl) rfl rfl rfl rfl rfl rfl rfl rfl rfl ?_
                            refine AtL.assign (.inl rfl) rfl rfl ?_
                            refine AtL.done ?_
                            refine At.nil ?_
                            have hver : verF ((spF 32 (ls.getD 0 [])).getD 2 []) = false := ver_no (by rintro ⟨a, b, c, d, e⟩; rcases hc4 with (((h | h) | h) | h) | h <;> contradiction)
                            have hp : parseF b = (.zero, 400) := by rw [hp0, headF_eq, if_neg hn3, if_pos hver]
                            exact At.retMP (vs := [.agg #[str [], str [], .int .i64 0, .slice none 0 0], .int .i64 400]) (H2 := [] :: H) [0] 4 rfl rfl Tryd.func42 rfl ⟨⟨_, rfl, LoadsTo.agg (cs := [str [], str [], .int .i64 0, .slice none 0 0]) tf_agg24 rfl (cellsOwn 3 0 0 rfl rfl rfl)⟩, rfl, trivial⟩ (⟨Sl.nil, by rw [hp]; rfl, by rw [hp]; rfl, rfl⟩)
                          · intro hc4
                            have hc4 : ¬ (((((¬ ((((spF 32 (ls.getD 0 [])).getD 2 []).length : Int) = 8)) ∨ (¬ (subl ((spF 32 (ls.getD 0 [])).getD 2 []) 0 5 = [72, 84, 84, 80, 47]))) ∨ (¬ (48 ≤ ((((spF 32 (ls.getD 0 [])).getD 2 []).getD 5 0).toNat : Int) ∧ ((((spF 32 (ls.getD 0 [])).getD 2 []).getD 5 0).toNat : Int) ≤ 57))) ∨ (¬ (((((spF 32 (ls.getD 0 [])).getD 2 []).getD 6 0).toNat : Int) = 46))) ∨ (¬ (48 ≤ ((((spF 32 (ls.getD 0 [])).getD 2 []).getD 7 0).toNat : Int) ∧ ((((spF 32 (ls.getD 0 [])).getD 2 []).getD 7 0).toNat : Int) ≤ 57))) := of_decide_eq_false hc4
                            simp only [not_or, Decidable.not_not] at hc4
                            obtain ⟨⟨⟨⟨v1, v2⟩, v3⟩, v4⟩, v5⟩ := hc4
                            have hver : verF ((spF 32 (ls.getD 0 [])).getD 2 []) = true := ver_yes v1 v2 v3 v4 v5
                            have h8 : ((spF 32 (ls.getD 0 [])).getD 2 []).length = 8 := by omega
                            refine At.skip ?_
                            refine At.seq ?_
                            refine At.seq ?_
                            refine At.region ?_
                            refine AtL.move (.inl rfl) rfl rfl ?_
                            refine AtL.nes (a := ((spF 32 (ls.getD 0 [])).getD 2 [])) (b := [72, 84, 84, 80, 47, 49, 46, 48]) (.inl rfl) rfl rfl rfl ?_
                            refine AtL.move (.inl rfl) rfl rfl ?_
                            refine AtL.join 3 (E' := [(95, .bool (decide ((¬ (((spF 32 (ls.getD 0 [])).getD 2 []) = [72, 84, 84, 80, 47, 49, 46, 48])) ∧ (¬ (((spF 32 (ls.getD 0 [])).getD 2 []) = [72, 84, 84, 80, 47, 49, 46, 49]))))), (2, .pointer (some ⟨b1, 0, none⟩)), (4, .slice A2 l4.length C3), (6, .slice A8 (spF 32 (ls.getD 0 [])).length C9), (7, str ((spF 32 (ls.getD 0 [])).getD 2 []))]) (H' := s11 :: s5 :: [(b1, .cells #[str [], str [], .int .i64 0, .slice none 0 0] 24 (0, 0))] :: H) (fun J => ?_) ?_
                            · refine AtL.split (t := 92) rfl ?_ ?_
                              · intro hs92
                                have hs92 : ¬ (((spF 32 (ls.getD 0 [])).getD 2 []) = [72, 84, 84, 80, 47, 49, 46, 48]) := of_decide_eq_false (bnot_true hs92)
                                refine AtL.move (.inr ⟨_, _, _, rfl, rfl, rfl, rfl⟩) rfl rfl ?_
                                refine AtL.nes (a := ((spF 32 (ls.getD 0 [])).getD 2 [])) (b := [72, 84, 84, 80, 47, 49, 46, 49]) (.inr ⟨_, _, _, rfl, rfl, rfl, rfl⟩) rfl rfl rfl ?_
                                refine AtL.pickT (.inl rfl) rfl rfl rfl ?_
                                exact J _ (by exact ⟨(boolIs (by clear J; first | (simp [hs92]; done) | (simp_all; done) | grind)), rfl, rfl, rfl, rfl, trivial⟩)
                              · intro hs92
                                have hs92 : ((spF 32 (ls.getD 0 [])).getD 2 []) = [72, 84, 84, 80, 47, 49, 46, 48] := of_decide_eq_true (bnot_false hs92)
                                refine AtL.skipped rfl rfl rfl rfl rfl rfl ?_
                                refine AtL.skipped rfl rfl rfl rfl rfl rfl ?_
                                refine AtL.pickF (.inl rfl) rfl rfl rfl ?_
                                exact J _ (by exact ⟨(boolIs (by clear J; first | (simp [hs92]; done) | (simp_all; done) | grind)), rfl, rfl, rfl, rfl, trivial⟩)
                            · skip
                              refine AtL.done ?_
                              refine At.cond rfl ?_ ?_
                              · intro hc5
                                have hc5 : (¬ (((spF 32 (ls.getD 0 [])).getD 2 []) = [72, 84, 84, 80, 47, 49, 46, 48])) ∧ (¬ (((spF 32 (ls.getD 0 [])).getD 2 []) = [72, 84, 84, 80, 47, 49, 46, 49])) := of_decide_eq_true hc5
                                refine At.seq ?_
                                refine At.region ?_
                                refine AtL.build (cs := [str [], str [], .int .i64 0, .slice none 0 0]) tf_lay24 (.inl rfl) rfl rfl rfl ?_
                                refine AtL.store (H' := s11 :: s5 :: [(b1, .cells #[str [], str [], .int .i64 0, .slice none 0 0] 24 (0, 0))] :: H) 2 0 tf_sz24 (.inl rfl) rfl rfl rfl rfl rfl rfl rfl rfl rfl ?_
                                refine AtL.assign (.inl rfl) rfl rfl ?_
                                refine AtL.done ?_
                                refine At.nil ?_
                                have hp : parseF b = (.zero, 505) := by rw [hp0, headF_eq, if_neg hn3, if_neg (by rw [hver]; simp), if_pos ((ver_is hver).1 hc5)]
                                exact At.retMP (vs := [.agg #[str [], str [], .int .i64 0, .slice none 0 0], .int .i64 505]) (H2 := [] :: H) [0] 4 rfl rfl Tryd.func42 rfl ⟨⟨_, rfl, LoadsTo.agg (cs := [str [], str [], .int .i64 0, .slice none 0 0]) tf_agg24 rfl (cellsOwn 3 0 0 rfl rfl rfl)⟩, rfl, trivial⟩ (⟨Sl.nil, by rw [hp]; rfl, by rw [hp]; rfl, rfl⟩)
                              · intro hc5
                                have hc5 : ¬ ((¬ (((spF 32 (ls.getD 0 [])).getD 2 []) = [72, 84, 84, 80, 47, 49, 46, 48])) ∧ (¬ (((spF 32 (ls.getD 0 [])).getD 2 []) = [72, 84, 84, 80, 47, 49, 46, 49]))) := of_decide_eq_false hc5
                                refine At.skip ?_
                                refine At.seq ?_
                                refine At.seq ?_
                                refine At.region ?_
                                refine AtL.move (.inl rfl) rfl rfl ?_
                                refine AtL.indexL 1 (o12.rd (i := 0) rfl) Tryd.underlying38 tf_sz9 (.inl rfl) rfl rfl rfl rfl (by omega) ?_
                                refine AtL.load (v := str ((spF 32 (ls.getD 0 [])).getD 1 [])) tf_flat9 (.inl rfl) rfl rfl (Rd.cell0 (o12.rd (i := 0) rfl) (getD_some [] (by omega)) rfl) ?_
                                refine AtL.lenS (l := ((spF 32 (ls.getD 0 [])).getD 1 [])) Tryd.underlying9 (.inl rfl) rfl rfl ?_
                                refine AtL.gtr (.inl rfl) rfl rfl rfl ?_
                                refine AtL.done ?_
                                refine At.cond rfl ?_ ?_
                                · intro hc6
                                  have hc6 : 2048 < (((spF 32 (ls.getD 0 [])).getD 1 []).length : Int) := of_decide_eq_true hc6
                                  refine At.seq ?_
                                  refine At.region ?_
                                  refine AtL.build (cs := [str [], str [], .int .i64 0, .slice none 0 0]) tf_lay24 (.inl rfl) rfl rfl rfl ?_
                                  refine AtL.store (H' := s11 :: s5 :: [(b1, .cells #[str [], str [], .int .i64 0, .slice none 0 0] 24 (0, 0))] :: H) 2 0 tf_sz24 (.inl rfl) rfl rfl rfl rfl rfl rfl rfl rfl rfl ?_
                                  refine AtL.assign (.inl rfl) rfl rfl ?_
                                  refine AtL.done ?_
                                  refine At.nil ?_
                                  have hp : parseF b = (.zero, 414) := by rw [hp0, headF_eq, if_neg hn3, if_neg (by rw [hver]; simp), if_neg (fun h5 => hc5 ((ver_is hver).2 h5)), if_pos (by omega)]
                                  exact At.retMP (vs := [.agg #[str [], str [], .int .i64 0, .slice none 0 0], .int .i64 414]) (H2 := [] :: H) [0] 4 rfl rfl Tryd.func42 rfl ⟨⟨_, rfl, LoadsTo.agg (cs := [str [], str [], .int .i64 0, .slice none 0 0]) tf_agg24 rfl (cellsOwn 3 0 0 rfl rfl rfl)⟩, rfl, trivial⟩ (⟨Sl.nil, by rw [hp]; rfl, by rw [hp]; rfl, rfl⟩)
                                · intro hc6
                                  have hc6 : ¬ (2048 < (((spF 32 (ls.getD 0 [])).getD 1 []).length : Int)) := of_decide_eq_false hc6
                                  refine At.skip ?_
                                  refine At.seq ?_
                                  refine At.seq ?_
                                  refine At.region ?_
                                  refine AtL.move (.inl rfl) rfl rfl ?_
                                  refine AtL.indexL 1 (o12.rd (i := 0) rfl) Tryd.underlying38 tf_sz9 (.inl rfl) rfl rfl rfl rfl (by omega) ?_
                                  refine AtL.load (v := str ((spF 32 (ls.getD 0 [])).getD 1 [])) tf_flat9 (.inl rfl) rfl rfl (Rd.cell0 (o12.rd (i := 0) rfl) (getD_some [] (by omega)) rfl) ?_
                                  refine AtL.call tf_body84 (.inl rfl) rfl rfl (rtarget_ok (l := ((spF 32 (ls.getD 0 [])).getD 1 [])) (by have := hw ((spF 32 (ls.getD 0 [])).getD 1 []) (getD_mem (l := spF 32 (ls.getD 0 [])) (i := 1) (by omega)); omega)) ?_
                                  rintro _ _ ⟨rfl, rfl⟩
                                  refine AtL.not (.inl rfl) rfl rfl ?_
                                  refine AtL.done ?_
                                  refine At.cond rfl ?_ ?_
                                  · intro hc7
                                    have hc7 : (targetF ((spF 32 (ls.getD 0 [])).getD 1 [])) = false := bnot_true hc7
                                    refine At.seq ?_
                                    refine At.region ?_
                                    refine AtL.build (cs := [str [], str [], .int .i64 0, .slice none 0 0]) tf_lay24 (.inl rfl) rfl rfl rfl ?_
                                    refine AtL.store (H' := s11 :: s5 :: [(b1, .cells #[str [], str [], .int .i64 0, .slice none 0 0] 24 (0, 0))] :: H) 2 0 tf_sz24 (.inl rfl) rfl rfl rfl rfl rfl rfl rfl rfl rfl ?_
                                    refine AtL.assign (.inl rfl) rfl rfl ?_
                                    refine AtL.done ?_
                                    refine At.nil ?_
                                    have hp : parseF b = (.zero, 400) := by rw [hp0, headF_eq, if_neg hn3, if_neg (by rw [hver]; simp), if_neg (fun h5 => hc5 ((ver_is hver).2 h5)), if_neg (by omega), if_pos (by simpa using hc7)]
                                    exact At.retMP (vs := [.agg #[str [], str [], .int .i64 0, .slice none 0 0], .int .i64 400]) (H2 := [] :: H) [0] 4 rfl rfl Tryd.func42 rfl ⟨⟨_, rfl, LoadsTo.agg (cs := [str [], str [], .int .i64 0, .slice none 0 0]) tf_agg24 rfl (cellsOwn 3 0 0 rfl rfl rfl)⟩, rfl, trivial⟩ (⟨Sl.nil, by rw [hp]; rfl, by rw [hp]; rfl, rfl⟩)
                                  · intro hc7
                                    have hc7 : (targetF ((spF 32 (ls.getD 0 [])).getD 1 [])) = true := bnot_false hc7
                                    refine At.skip ?_
                                    refine At.seq ?_
                                    have hB14 := u8_le ((((spF 32 (ls.getD 0 [])).getD 2 []).getD 7 0 - 48 : UInt8))
                                    refine At.draw (es := [11, 12]) (pv := [(0, .slice A8 (spF 32 (ls.getD 0 [])).length C9), (1, .pointer (some (eaddr A8 (0 * tyS.sz)))), (2, str ((spF 32 (ls.getD 0 [])).getD 0 [])), (3, .slice A8 (spF 32 (ls.getD 0 [])).length C9), (4, .pointer (some (eaddr A8 (1 * tyS.sz)))), (5, str ((spF 32 (ls.getD 0 [])).getD 1 [])), (6, str ((spF 32 (ls.getD 0 [])).getD 2 [])), (7, .int .u8 ((((spF 32 (ls.getD 0 [])).getD 2 []).getD 7 0).toNat : Int)), (8, .int .u8 ((((spF 32 (ls.getD 0 [])).getD 2 []).getD 7 0 - 48 : UInt8).toNat : Int)), (9, .int .i64 ((((spF 32 (ls.getD 0 [])).getD 2 []).getD 7 0 - 48 : UInt8).toNat : Int)), (10, .agg #[str ((spF 32 (ls.getD 0 [])).getD 0 []), str ((spF 32 (ls.getD 0 [])).getD 1 []), .int .i64 ((((spF 32 (ls.getD 0 [])).getD 2 []).getD 7 0 - 48 : UInt8).toNat : Int), .slice none 0 0])]) tf_mixed (by kernel_rfl) (by kernel_rfl) (by kernel_rfl) ?_
                                    refine ⟨⟨.inr ⟨_, rfl, rfl, .inl ⟨rfl, Do.move rfl⟩⟩, .inr ⟨_, rfl, rfl, .inl ⟨rfl, Do.indexL 0 (o12.rd (i := 0) rfl) Tryd.underlying38 tf_sz9 rfl rfl rfl (by omega)⟩⟩, .inr ⟨_, rfl, rfl, .inl ⟨rfl, Do.load (v := str ((spF 32 (ls.getD 0 [])).getD 0 [])) tf_flat9 rfl (Rd.cell0 (o12.rd (i := 0) rfl) (getD_some [] (by omega)) rfl)⟩⟩, .inr ⟨_, rfl, rfl, .inl ⟨rfl, Do.move rfl⟩⟩, .inr ⟨_, rfl, rfl, .inl ⟨rfl, Do.indexL 1 (o12.rd (i := 0) rfl) Tryd.underlying38 tf_sz9 rfl rfl rfl (by omega)⟩⟩, .inr ⟨_, rfl, rfl, .inl ⟨rfl, Do.load (v := str ((spF 32 (ls.getD 0 [])).getD 1 [])) tf_flat9 rfl (Rd.cell0 (o12.rd (i := 0) rfl) (getD_some [] (by omega)) rfl)⟩⟩, .inr ⟨_, rfl, rfl, .inl ⟨rfl, Do.move rfl⟩⟩, .inr ⟨_, rfl, rfl, .inl ⟨rfl, Do.indexS (l := ((spF 32 (ls.getD 0 [])).getD 2 [])) 7 rfl (by omega) Tryd.underlying9 rfl rfl⟩⟩, .inr ⟨_, rfl, rfl, .inl ⟨rfl, Do.sub (z := ((((spF 32 (ls.getD 0 [])).getD 2 []).getD 7 0 - 48 : UInt8).toNat : Int)) rfl rfl (sub48 v5)⟩⟩, .inr ⟨_, rfl, rfl, .inl ⟨rfl, Do.convInt (z := ((((spF 32 (ls.getD 0 [])).getD 2 []).getD 7 0 - 48 : UInt8).toNat : Int)) Tryd.underlying5 Tryd.underlying3 rfl (u8_i64 _)⟩⟩, .inr ⟨_, rfl, rfl, .inl ⟨rfl, Do.build (cs := [str ((spF 32 (ls.getD 0 [])).getD 0 []), str ((spF 32 (ls.getD 0 [])).getD 1 []), .int .i64 ((((spF 32 (ls.getD 0 [])).getD 2 []).getD 7 0 - 48 : UInt8).toNat : Int), .slice none 0 0]) tf_lay24 rfl rfl⟩⟩, trivial⟩, rfl, rfl, by kernel_rfl, _, rfl, rfl, rfl, _, Do.alloc tf_zero24 (cs := #[str [], str [], .int .i64 0, .slice none 0 0]) rfl, ?_⟩
                                    rintro _ _ ⟨b15, rfl, rfl⟩
                                    refine ⟨[], rfl, ?_⟩
                                    refine ⟨⟨.inr ⟨_, rfl, rfl, .inl ⟨rfl, Do.move rfl⟩⟩, .inr ⟨_, rfl, rfl, .inl ⟨rfl, Do.indexL 0 (o12.rd (i := 1) rfl) Tryd.underlying38 tf_sz9 rfl rfl rfl (by omega)⟩⟩, .inr ⟨_, rfl, rfl, .inl ⟨rfl, Do.load (v := str ((spF 32 (ls.getD 0 [])).getD 0 [])) tf_flat9 rfl (Rd.cell0 (o12.rd (i := 1) rfl) (getD_some [] (by omega)) rfl)⟩⟩, .inr ⟨_, rfl, rfl, .inl ⟨rfl, Do.move rfl⟩⟩, .inr ⟨_, rfl, rfl, .inl ⟨rfl, Do.indexL 1 (o12.rd (i := 1) rfl) Tryd.underlying38 tf_sz9 rfl rfl rfl (by omega)⟩⟩, .inr ⟨_, rfl, rfl, .inl ⟨rfl, Do.load (v := str ((spF 32 (ls.getD 0 [])).getD 1 [])) tf_flat9 rfl (Rd.cell0 (o12.rd (i := 1) rfl) (getD_some [] (by omega)) rfl)⟩⟩, .inr ⟨_, rfl, rfl, .inl ⟨rfl, Do.move rfl⟩⟩, .inr ⟨_, rfl, rfl, .inl ⟨rfl, Do.indexS (l := ((spF 32 (ls.getD 0 [])).getD 2 [])) 7 rfl (by omega) Tryd.underlying9 rfl rfl⟩⟩, .inr ⟨_, rfl, rfl, .inl ⟨rfl, Do.sub (z := ((((spF 32 (ls.getD 0 [])).getD 2 []).getD 7 0 - 48 : UInt8).toNat : Int)) rfl rfl (sub48 v5)⟩⟩, .inr ⟨_, rfl, rfl, .inl ⟨rfl, Do.convInt (z := ((((spF 32 (ls.getD 0 [])).getD 2 []).getD 7 0 - 48 : UInt8).toNat : Int)) Tryd.underlying5 Tryd.underlying3 rfl (u8_i64 _)⟩⟩, .inr ⟨_, rfl, rfl, .inl ⟨rfl, Do.build (cs := [str ((spF 32 (ls.getD 0 [])).getD 0 []), str ((spF 32 (ls.getD 0 [])).getD 1 []), .int .i64 ((((spF 32 (ls.getD 0 [])).getD 2 []).getD 7 0 - 48 : UInt8).toNat : Int), .slice none 0 0]) tf_lay24 rfl rfl⟩⟩, trivial⟩, rfl, rfl, by kernel_rfl, _, rfl, rfl, rfl, _, Do.store (H' := [(b15, .cells #[str ((spF 32 (ls.getD 0 [])).getD 0 []), str ((spF 32 (ls.getD 0 [])).getD 1 []), .int .i64 ((((spF 32 (ls.getD 0 [])).getD 2 []).getD 7 0 - 48 : UInt8).toNat : Int), .slice none 0 0] 24 (0, 0))] :: s11 :: s5 :: [(b1, .cells #[str [], str [], .int .i64 0, .slice none 0 0] 24 (0, 0))] :: H) 0 0 tf_sz24 rfl rfl rfl rfl rfl rfl rfl rfl rfl, ?_⟩
                                    rintro _ _ ⟨rfl, rfl⟩
                                    refine ⟨[], rfl, ?_⟩
                                    refine ⟨⟨.inl (by kernel_rfl), .inl (by kernel_rfl), .inl (by kernel_rfl), .inl (by kernel_rfl), .inl (by kernel_rfl), .inl (by kernel_rfl), .inl (by kernel_rfl), .inl (by kernel_rfl), .inl (by kernel_rfl), .inl (by kernel_rfl), .inl (by kernel_rfl), trivial⟩, by kernel_rfl, ?_⟩
                                    refine At.mono (E' := [(2, .pointer (some ⟨b1, 0, none⟩)), (4, .slice A2 l4.length C3), (8, .pointer (some ⟨b15, 0, none⟩))]) ⟨rfl, rfl, rfl, trivial⟩ ?_
                                    refine At.seq ?_
                                    refine At.seq ?_
                                    refine At.region ?_
                                    refine AtL.assign (.inl rfl) rfl rfl ?_
                                    refine AtL.done ?_
                                    refine At.block ?_
                                    refine At.nil ?_
                                    refine At.pick (H' := [(b15, .cells #[str ((spF 32 (ls.getD 0 [])).getD 0 []), str ((spF 32 (ls.getD 0 [])).getD 1 []), .int .i64 ((((spF 32 (ls.getD 0 [])).getD 2 []).getD 7 0 - 48 : UInt8).toNat : Int), .slice none 0 0] 24 (0, 0))] :: [] :: s5 :: [(b1, .cells #[str [], str [], .int .i64 0, .slice none 0 0] 24 (0, 0))] :: H) [1, 0, 3, 4] 5 rfl rfl ?_
                                    refine At.loop2 (fun (k : Nat) (x : Sl tyField 67) => [(2, .pointer (some ⟨b1, 0, none⟩)), (4, .slice A2 l4.length C3), (8, .pointer (some ⟨b15, 0, none⟩)), (9, .int .i64 ((k + 1 : Nat) : Int))]) (fun (k : Nat) (x : Sl tyField 67) => [(b15, .cells #[str ((spF 32 (ls.getD 0 [])).getD 0 []), str ((spF 32 (ls.getD 0 [])).getD 1 []), .int .i64 ((((spF 32 (ls.getD 0 [])).getD 2 []).getD 7 0 - 48 : UInt8).toNat : Int), .slice x.A x.l.length x.C] 24 (0, 0))] :: x.s :: s5 :: [(b1, .cells #[str [], str [], .int .i64 0, .slice none 0 0] 24 (0, 0))] :: H) (fun (k : Nat) (x : Sl tyField 67) => k ≤ (ls.drop 1).length ∧ (x.l.length = k ∧ k ≤ 32) ∧ fieldsF (ls.drop 1) 0 = (match fieldsF ((ls.drop 1).drop k) k with | .inl s => .inl s | .inr fs => .inr (x.l ++ fs)) ∧ (∀ f ∈ x.l, f.1.length ≤ b.length ∧ f.2.length ≤ b.length)) (fun (k : Nat) (x : Sl tyField 67) => (ls.drop 1).length - k) 0 Sl.nil (⟨Nat.zero_le _, ⟨rfl, by decide⟩, by rw [List.drop_zero]; cases fieldsF (ls.drop 1) 0 <;> simp [Sl.nil], fun f hf => absurd hf (by simp [Sl.nil])⟩) ⟨rfl, rfl, rfl, rfl, trivial⟩ rfl ?_
                                    rintro k x ⟨hk, ⟨hxl, hk32⟩, hfl, hxb⟩ ihL1
                                    have hcapx := Own.cap_le x.own
                                    refine At.seq ?_
                                    refine At.seq ?_
                                    refine At.region ?_
                                    refine AtL.move (.inl rfl) rfl rfl ?_
                                    refine AtL.move (.inl rfl) rfl rfl ?_
                                    refine AtL.lenL Tryd.underlying38 (.inl rfl) rfl rfl ?_
                                    refine AtL.sub (z := (l4.length : Int) - 1) (.inl rfl) rfl rfl rfl (w64 (by omega) (by omega)) ?_
                                    refine AtL.lss (.inl rfl) rfl rfl rfl ?_
                                    refine AtL.done ?_
                                    refine At.cond rfl ?_ ?_
                                    · intro hc8
                                      have hc8 : ((k + 1 : Nat) : Int) < ((l4.length : Int) - 1) := of_decide_eq_true hc8
                                      have hk1 : l4.getD (k + 1) [] = (ls.drop 1).getD k [] := by rw [hll]; simp only [List.getD]; rw [List.getElem?_append_left (by omega), List.getElem?_drop, Nat.add_comm]
                                      have hst := fields_step (L := ls.drop 1) (k := k) (by omega)
                                      rw [← hk1] at hst
                                      have hlk := hlb.1 ((ls.drop 1).getD k []) (List.mem_of_mem_drop (getD_mem (l := ls.drop 1) (i := k) (by omega)))
                                      rw [← hk1] at hlk
                                      refine At.skip ?_
                                      refine At.seq ?_
                                      refine At.block ?_
                                      refine At.seq ?_
                                      refine At.seq ?_
                                      refine At.region ?_
                                      refine AtL.move (.inl rfl) rfl rfl ?_
                                      refine AtL.gtr (.inl rfl) rfl rfl rfl ?_
                                      refine AtL.done ?_
                                      refine At.cond rfl ?_ ?_
                                      · intro hc9
                                        have hc9 : 32 < ((k + 1 : Nat) : Int) := of_decide_eq_true hc9
                                        refine At.seq ?_
                                        refine At.region ?_
                                        refine AtL.build (cs := [str [], str [], .int .i64 0, .slice none 0 0]) tf_lay24 (.inl rfl) rfl rfl rfl ?_
                                        refine AtL.store (H' := [(b15, .cells #[str ((spF 32 (ls.getD 0 [])).getD 0 []), str ((spF 32 (ls.getD 0 [])).getD 1 []), .int .i64 ((((spF 32 (ls.getD 0 [])).getD 2 []).getD 7 0 - 48 : UInt8).toNat : Int), .slice x.A x.l.length x.C] 24 (0, 0))] :: x.s :: s5 :: [(b1, .cells #[str [], str [], .int .i64 0, .slice none 0 0] 24 (0, 0))] :: H) 3 0 tf_sz24 (.inl rfl) rfl rfl rfl rfl rfl rfl rfl rfl rfl ?_
                                        refine AtL.assign (.inl rfl) rfl rfl ?_
                                        refine AtL.done ?_
                                        refine At.nil ?_
                                        have hp : parseF b = (.zero, 431) := by rw [hp0, headF_eq, if_neg hn3, if_neg (by rw [hver]; simp), if_neg (fun h5 => hc5 ((ver_is hver).2 h5)), if_neg (by omega), if_neg (by simpa using hc7), hfl, hst, if_pos (by omega)]
                                        exact At.retMP (vs := [.agg #[str [], str [], .int .i64 0, .slice none 0 0], .int .i64 431]) (H2 := [] :: H) [0] 5 rfl rfl Tryd.func42 rfl ⟨⟨_, rfl, LoadsTo.agg (cs := [str [], str [], .int .i64 0, .slice none 0 0]) tf_agg24 rfl (cellsOwn 4 0 0 rfl rfl rfl)⟩, rfl, trivial⟩ (⟨Sl.nil, by rw [hp]; rfl, by rw [hp]; rfl, rfl⟩)
                                      · intro hc9
                                        have hc9 : ¬ (32 < ((k + 1 : Nat) : Int)) := of_decide_eq_false hc9
                                        refine At.skip ?_
                                        refine At.seq ?_
                                        refine At.region ?_
                                        refine AtL.assign (.inl rfl) rfl rfl ?_
                                        refine AtL.done ?_
                                        refine At.seq ?_
                                        refine At.block ?_
                                        refine At.loop (fun (a : Nat) => [(2, .pointer (some ⟨b1, 0, none⟩)), (4, .slice A2 l4.length C3), (8, .pointer (some ⟨b15, 0, none⟩)), (9, .int .i64 ((k + 1 : Nat) : Int)), (10, .int .i64 (a : Int))]) (fun (a : Nat) => [(b15, .cells #[str ((spF 32 (ls.getD 0 [])).getD 0 []), str ((spF 32 (ls.getD 0 [])).getD 1 []), .int .i64 ((((spF 32 (ls.getD 0 [])).getD 2 []).getD 7 0 - 48 : UInt8).toNat : Int), .slice x.A x.l.length x.C] 24 (0, 0))] :: x.s :: s5 :: [(b1, .cells #[str [], str [], .int .i64 0, .slice none 0 0] 24 (0, 0))] :: H) (fun (a : Nat) => a ≤ (l4.getD (k + 1) []).length ∧ ∀ j, j < a → (l4.getD (k + 1) []).getD j 0 ≠ 58) (fun (a : Nat) => (l4.getD (k + 1) []).length - a) 0 (⟨Nat.zero_le _, fun j hj => absurd hj (by omega)⟩) ⟨rfl, rfl, rfl, rfl, rfl, trivial⟩ rfl ?_
                                        rintro a ⟨ha, hna⟩ ihL2
                                        refine At.seq ?_
                                        refine At.seq ?_
                                        refine At.region ?_
                                        refine AtL.move (.inl rfl) rfl rfl ?_
                                        refine AtL.move (.inl rfl) rfl rfl ?_
                                        refine AtL.move (.inl rfl) rfl rfl ?_
                                        refine AtL.indexL (k + 1 : Nat) (o6.rd (i := 2) rfl) Tryd.underlying38 tf_sz9 (.inl rfl) rfl rfl rfl rfl (by omega) ?_
                                        refine AtL.load (v := str (l4.getD (k + 1 : Nat) [])) tf_flat9 (.inl rfl) rfl rfl (Rd.cell0 (o6.rd (i := 2) rfl) (getD_some [] (by omega)) rfl) ?_
                                        refine AtL.lenS (l := (l4.getD (k + 1 : Nat) [])) Tryd.underlying9 (.inl rfl) rfl rfl ?_
                                        refine AtL.lss (.inl rfl) rfl rfl rfl ?_
                                        refine AtL.move (.inl rfl) rfl rfl ?_
                                        refine AtL.join 8 (E' := [(145, .bool (decide (((a : Int) < ((l4.getD (k + 1 : Nat) []).length : Int)) ∧ (¬ ((((l4.getD (k + 1 : Nat) []).getD a 0).toNat : Int) = 58))))), (2, .pointer (some ⟨b1, 0, none⟩)), (4, .slice A2 l4.length C3), (8, .pointer (some ⟨b15, 0, none⟩)), (9, .int .i64 ((k + 1 : Nat) : Int)), (10, .int .i64 (a : Int))]) (H' := [(b15, .cells #[str ((spF 32 (ls.getD 0 [])).getD 0 []), str ((spF 32 (ls.getD 0 [])).getD 1 []), .int .i64 ((((spF 32 (ls.getD 0 [])).getD 2 []).getD 7 0 - 48 : UInt8).toNat : Int), .slice x.A x.l.length x.C] 24 (0, 0))] :: x.s :: s5 :: [(b1, .cells #[str [], str [], .int .i64 0, .slice none 0 0] 24 (0, 0))] :: H) (fun J => ?_) ?_
                                        · refine AtL.split (t := 137) rfl ?_ ?_
                                          · intro hs137
                                            have hs137 : (a : Int) < ((l4.getD (k + 1 : Nat) []).length : Int) := of_decide_eq_true hs137
                                            refine AtL.move (.inr ⟨_, _, _, rfl, rfl, rfl, rfl⟩) rfl rfl ?_
                                            refine AtL.move (.inr ⟨_, _, _, rfl, rfl, rfl, rfl⟩) rfl rfl ?_
                                            refine AtL.indexL (k + 1 : Nat) (o6.rd (i := 2) rfl) Tryd.underlying38 tf_sz9 (.inr ⟨_, _, _, rfl, rfl, rfl, rfl⟩) rfl rfl rfl rfl (by omega) ?_
                                            refine AtL.load (v := str (l4.getD (k + 1 : Nat) [])) tf_flat9 (.inr ⟨_, _, _, rfl, rfl, rfl, rfl⟩) rfl rfl (Rd.cell0 (o6.rd (i := 2) rfl) (getD_some [] (by omega)) rfl) ?_
                                            refine AtL.move (.inr ⟨_, _, _, rfl, rfl, rfl, rfl⟩) rfl rfl ?_
                                            refine AtL.indexS (l := (l4.getD (k + 1 : Nat) [])) a rfl (by omega) Tryd.underlying9 (.inr ⟨_, _, _, rfl, rfl, rfl, rfl⟩) rfl rfl rfl ?_
                                            refine AtL.nei (.inr ⟨_, _, _, rfl, rfl, rfl, rfl⟩) rfl rfl rfl ?_
                                            refine AtL.pickT (.inl rfl) rfl rfl rfl ?_
                                            exact J _ (by exact ⟨(boolIs (by clear J; first | (simp [hs137]; done) | (simp_all; done) | grind)), rfl, rfl, rfl, rfl, rfl, trivial⟩)
                                          · intro hs137
                                            have hs137 : ¬ ((a : Int) < ((l4.getD (k + 1 : Nat) []).length : Int)) := of_decide_eq_false hs137
                                            refine AtL.skipped rfl rfl rfl rfl rfl rfl ?_
                                            refine AtL.skipped rfl rfl rfl rfl rfl rfl ?_
                                            refine AtL.skipped rfl rfl rfl rfl rfl rfl ?_
                                            refine AtL.skipped rfl rfl rfl rfl rfl rfl ?_
                                            refine AtL.skipped rfl rfl rfl rfl rfl rfl ?_
                                            refine AtL.skipped rfl rfl rfl rfl rfl rfl ?_
                                            refine AtL.skipped rfl rfl rfl rfl rfl rfl ?_
                                            refine AtL.pickF (.inl rfl) rfl rfl rfl ?_
                                            exact J _ (by exact ⟨(boolIs (by clear J; first | (simp [hs137]; done) | (simp_all; done) | grind)), rfl, rfl, rfl, rfl, rfl, trivial⟩)
                                        · skip
                                          refine AtL.done ?_
                                          refine At.cond rfl ?_ ?_
                                          · intro hc10
                                            have hc10 : ((a : Int) < ((l4.getD (k + 1 : Nat) []).length : Int)) ∧ (¬ ((((l4.getD (k + 1 : Nat) []).getD a 0).toNat : Int) = 58)) := of_decide_eq_true hc10
                                            refine At.skip ?_
                                            refine At.block ?_
                                            refine At.region ?_
                                            refine AtL.move (.inl rfl) rfl rfl ?_
                                            refine AtL.add (z := (a : Int) + 1) (.inl rfl) rfl rfl rfl (w64 (by omega) (by omega)) ?_
                                            refine AtL.assign (.inl rfl) rfl rfl ?_
                                            refine AtL.done ?_
                                            refine At.inBlock ?_
                                            refine ihL2 (a + 1) (⟨by omega, fun j hj => by
                                                  rcases Nat.lt_or_ge j a with h1 | h1
                                                  · exact hna j h1
                                                  · obtain rfl : j = a := by omega
                                                    exact fun h => hc10.2 ((u8_eq (n := 58) (by omega)).2 h)⟩) (by omega) _ ?_
                                            exact ⟨rfl, rfl, rfl, rfl, (by first | rfl | exact slLen (by simp []) | exact intEq (by omega) | exact intEq (by simp []) | exact slLen (by simp []; omega)), trivial⟩
                                          · intro hc10
                                            have hc10 : ¬ (((a : Int) < ((l4.getD (k + 1 : Nat) []).length : Int)) ∧ (¬ ((((l4.getD (k + 1 : Nat) []).getD a 0).toNat : Int) = 58))) := of_decide_eq_false hc10
                                            have hcc : a = (l4.getD (k + 1) []).length ∨ (a < (l4.getD (k + 1) []).length ∧ (l4.getD (k + 1) []).getD a 0 = 58) := by
                                              by_cases h : a < (l4.getD (k + 1) []).length
                                              · exact .inr ⟨h, (u8_eq (n := 58) (by omega)).1 (by by_cases h2 : (((l4.getD (k + 1) []).getD a 0).toNat : Int) = 58; exact h2; exact absurd ⟨by omega, h2⟩ hc10)⟩
                                              · exact .inl (by omega)
                                            refine At.exit rfl ?_
                                            refine At.seq ?_
                                            refine At.seq ?_
                                            refine At.region ?_
                                            refine AtL.move (.inl rfl) rfl rfl ?_
                                            refine AtL.move (.inl rfl) rfl rfl ?_
                                            refine AtL.move (.inl rfl) rfl rfl ?_
                                            refine AtL.indexL (k + 1 : Nat) (o6.rd (i := 2) rfl) Tryd.underlying38 tf_sz9 (.inl rfl) rfl rfl rfl rfl (by omega) ?_
                                            refine AtL.load (v := str (l4.getD (k + 1 : Nat) [])) tf_flat9 (.inl rfl) rfl rfl (Rd.cell0 (o6.rd (i := 2) rfl) (getD_some [] (by omega)) rfl) ?_
                                            refine AtL.lenS (l := (l4.getD (k + 1 : Nat) [])) Tryd.underlying9 (.inl rfl) rfl rfl ?_
                                            refine AtL.eqi (.inl rfl) rfl rfl rfl ?_
                                            refine AtL.move (.inl rfl) rfl rfl ?_
                                            refine AtL.join 9 (E' := [(164, .bool (decide (((a : Int) = ((l4.getD (k + 1 : Nat) []).length : Int)) ∨ ((wordF (subl (l4.getD (k + 1 : Nat) []) 0 a) 64) = false)))), (2, .pointer (some ⟨b1, 0, none⟩)), (4, .slice A2 l4.length C3), (8, .pointer (some ⟨b15, 0, none⟩)), (9, .int .i64 ((k + 1 : Nat) : Int)), (10, .int .i64 (a : Int))]) (H' := [(b15, .cells #[str ((spF 32 (ls.getD 0 [])).getD 0 []), str ((spF 32 (ls.getD 0 [])).getD 1 []), .int .i64 ((((spF 32 (ls.getD 0 [])).getD 2 []).getD 7 0 - 48 : UInt8).toNat : Int), .slice x.A x.l.length x.C] 24 (0, 0))] :: x.s :: s5 :: [(b1, .cells #[str [], str [], .int .i64 0, .slice none 0 0] 24 (0, 0))] :: H) (fun J => ?_) ?_
                                            · refine AtL.split (t := 155) rfl ?_ ?_
                                              · intro hs155
                                                have hs155 : (a : Int) = ((l4.getD (k + 1 : Nat) []).length : Int) := of_decide_eq_true hs155
                                                refine AtL.skipped rfl rfl rfl rfl rfl rfl ?_
                                                refine AtL.skipped rfl rfl rfl rfl rfl rfl ?_
                                                refine AtL.skipped rfl rfl rfl rfl rfl rfl ?_
                                                refine AtL.skipped rfl rfl rfl rfl rfl rfl ?_
                                                refine AtL.skipped rfl rfl rfl rfl rfl rfl ?_
                                                refine AtL.skipped rfl rfl rfl rfl rfl rfl ?_
                                                refine AtL.skipped rfl rfl rfl rfl rfl rfl ?_
                                                refine AtL.skipped rfl rfl rfl rfl rfl rfl ?_
                                                refine AtL.pickT (.inl rfl) rfl rfl rfl ?_
                                                exact J _ (by exact ⟨(boolIs (by clear J; first | (simp [hs155]; done) | (simp_all; done) | grind)), rfl, rfl, rfl, rfl, rfl, trivial⟩)
                                              · intro hs155
                                                have hs155 : ¬ ((a : Int) = ((l4.getD (k + 1 : Nat) []).length : Int)) := of_decide_eq_false hs155
                                                have hal2 : a < (l4.getD (k + 1) []).length := by first | omega | (simp only [not_or, Classical.not_not] at hs155; omega)
                                                refine AtL.move (.inr ⟨_, _, _, rfl, rfl, rfl, rfl⟩) rfl rfl ?_
                                                refine AtL.move (.inr ⟨_, _, _, rfl, rfl, rfl, rfl⟩) rfl rfl ?_
                                                refine AtL.indexL (k + 1 : Nat) (o6.rd (i := 2) rfl) Tryd.underlying38 tf_sz9 (.inr ⟨_, _, _, rfl, rfl, rfl, rfl⟩) rfl rfl rfl rfl (by omega) ?_
                                                refine AtL.load (v := str (l4.getD (k + 1 : Nat) [])) tf_flat9 (.inr ⟨_, _, _, rfl, rfl, rfl, rfl⟩) rfl rfl (Rd.cell0 (o6.rd (i := 2) rfl) (getD_some [] (by omega)) rfl) ?_
                                                refine AtL.move (.inr ⟨_, _, _, rfl, rfl, rfl, rfl⟩) rfl rfl ?_
                                                refine AtL.sliceS (l := (l4.getD (k + 1 : Nat) [])) 0 a rfl (evBound_some rfl rfl) (by omega) (by omega) Tryd.underlying9 (.inr ⟨_, _, _, rfl, rfl, rfl, rfl⟩) rfl rfl ?_
                                                refine AtL.call tf_body70 (.inr ⟨_, _, _, rfl, rfl, rfl, rfl⟩) rfl rfl (rword_ok (l := subl (l4.getD (k + 1 : Nat) []) 0 a) (by rw [subl_len (by omega)]; omega) 64) ?_
                                                rintro _ _ ⟨rfl, rfl⟩
                                                refine AtL.not (.inr ⟨_, _, _, rfl, rfl, rfl, rfl⟩) rfl rfl ?_
                                                refine AtL.pickF (.inl rfl) rfl rfl rfl ?_
                                                exact J _ (by exact ⟨(boolIs (by clear J; first | (simp [hs155]; done) | (simp_all; done) | grind)), rfl, rfl, rfl, rfl, rfl, trivial⟩)
                                            · skip
                                              refine AtL.move (.inl rfl) rfl rfl ?_
                                              refine AtL.join 11 (E' := [(176, .bool (decide ((((a : Int) = ((l4.getD (k + 1 : Nat) []).length : Int)) ∨ ((wordF (subl (l4.getD (k + 1 : Nat) []) 0 a) 64) = false)) ∨ ((valueF (trimF (subl (l4.getD (k + 1 : Nat) []) (a + 1) (l4.getD (k + 1 : Nat) []).length))) = false)))), (2, .pointer (some ⟨b1, 0, none⟩)), (4, .slice A2 l4.length C3), (8, .pointer (some ⟨b15, 0, none⟩)), (9, .int .i64 ((k + 1 : Nat) : Int)), (10, .int .i64 (a : Int))]) (H' := [(b15, .cells #[str ((spF 32 (ls.getD 0 [])).getD 0 []), str ((spF 32 (ls.getD 0 [])).getD 1 []), .int .i64 ((((spF 32 (ls.getD 0 [])).getD 2 []).getD 7 0 - 48 : UInt8).toNat : Int), .slice x.A x.l.length x.C] 24 (0, 0))] :: x.s :: s5 :: [(b1, .cells #[str [], str [], .int .i64 0, .slice none 0 0] 24 (0, 0))] :: H) (fun J => ?_) ?_
                                              · refine AtL.split (t := 165) rfl ?_ ?_
                                                · intro hs165
                                                  have hs165 : ((a : Int) = ((l4.getD (k + 1 : Nat) []).length : Int)) ∨ ((wordF (subl (l4.getD (k + 1 : Nat) []) 0 a) 64) = false) := of_decide_eq_true hs165
                                                  refine AtL.skipped rfl rfl rfl rfl rfl rfl ?_
                                                  refine AtL.skipped rfl rfl rfl rfl rfl rfl ?_
                                                  refine AtL.skipped rfl rfl rfl rfl rfl rfl ?_
                                                  refine AtL.skipped rfl rfl rfl rfl rfl rfl ?_
                                                  refine AtL.skipped rfl rfl rfl rfl rfl rfl ?_
                                                  refine AtL.skipped rfl rfl rfl rfl rfl rfl ?_
                                                  refine AtL.skipped rfl rfl rfl rfl rfl rfl ?_
                                                  refine AtL.skipped rfl rfl rfl rfl rfl rfl ?_
                                                  refine AtL.skipped rfl rfl rfl rfl rfl rfl ?_
                                                  refine AtL.skipped rfl rfl rfl rfl rfl rfl ?_
                                                  refine AtL.pickT (.inl rfl) rfl rfl rfl ?_
                                                  exact J _ (by exact ⟨(boolIs (by clear J; first | (simp [hs165]; done) | (simp_all; done) | grind)), rfl, rfl, rfl, rfl, rfl, trivial⟩)
                                                · intro hs165
                                                  have hs165 : ¬ (((a : Int) = ((l4.getD (k + 1 : Nat) []).length : Int)) ∨ ((wordF (subl (l4.getD (k + 1 : Nat) []) 0 a) 64) = false)) := of_decide_eq_false hs165
                                                  have hal2 : a < (l4.getD (k + 1) []).length := by first | omega | (simp only [not_or, Classical.not_not] at hs165; omega)
                                                  refine AtL.move (.inr ⟨_, _, _, rfl, rfl, rfl, rfl⟩) rfl rfl ?_
                                                  refine AtL.move (.inr ⟨_, _, _, rfl, rfl, rfl, rfl⟩) rfl rfl ?_
                                                  refine AtL.indexL (k + 1 : Nat) (o6.rd (i := 2) rfl) Tryd.underlying38 tf_sz9 (.inr ⟨_, _, _, rfl, rfl, rfl, rfl⟩) rfl rfl rfl rfl (by omega) ?_
                                                  refine AtL.load (v := str (l4.getD (k + 1 : Nat) [])) tf_flat9 (.inr ⟨_, _, _, rfl, rfl, rfl, rfl⟩) rfl rfl (Rd.cell0 (o6.rd (i := 2) rfl) (getD_some [] (by omega)) rfl) ?_
                                                  refine AtL.move (.inr ⟨_, _, _, rfl, rfl, rfl, rfl⟩) rfl rfl ?_
                                                  refine AtL.add (z := (a : Int) + 1) (.inr ⟨_, _, _, rfl, rfl, rfl, rfl⟩) rfl rfl rfl (w64 (by omega) (by omega)) ?_
                                                  refine AtL.sliceS (l := (l4.getD (k + 1 : Nat) [])) (a + 1) (l4.getD (k + 1 : Nat) []).length (evBound_some rfl rfl) rfl (by omega) (by omega) Tryd.underlying9 (.inr ⟨_, _, _, rfl, rfl, rfl, rfl⟩) rfl rfl ?_
                                                  refine AtL.call tf_body85 (.inr ⟨_, _, _, rfl, rfl, rfl, rfl⟩) rfl rfl (rtrim_ok (l := subl (l4.getD (k + 1 : Nat) []) (a + 1) (l4.getD (k + 1 : Nat) []).length) (by rw [subl_len (Nat.le_refl _)]; omega)) ?_
                                                  rintro _ _ ⟨rfl, rfl⟩
                                                  refine AtL.call tf_body71 (.inr ⟨_, _, _, rfl, rfl, rfl, rfl⟩) rfl rfl (rvalue_ok (l := trimF (subl (l4.getD (k + 1 : Nat) []) (a + 1) (l4.getD (k + 1 : Nat) []).length)) (by have := trimF_le (subl (l4.getD (k + 1) []) (a + 1) (l4.getD (k + 1) []).length); rw [subl_len (Nat.le_refl _)] at this; omega)) ?_
                                                  rintro _ _ ⟨rfl, rfl⟩
                                                  refine AtL.not (.inr ⟨_, _, _, rfl, rfl, rfl, rfl⟩) rfl rfl ?_
                                                  refine AtL.pickF (.inl rfl) rfl rfl rfl ?_
                                                  exact J _ (by exact ⟨(boolIs (by clear J; first | (simp [hs165]; done) | (simp_all; done) | grind)), rfl, rfl, rfl, rfl, rfl, trivial⟩)
                                              · skip
                                                refine AtL.done ?_
                                                refine At.cond rfl ?_ ?_
                                                · intro hc11
                                                  have hc11 : (((a : Int) = ((l4.getD (k + 1 : Nat) []).length : Int)) ∨ ((wordF (subl (l4.getD (k + 1 : Nat) []) 0 a) 64) = false)) ∨ ((valueF (trimF (subl (l4.getD (k + 1 : Nat) []) (a + 1) (l4.getD (k + 1 : Nat) []).length))) = false) := of_decide_eq_true hc11
                                                  have hbad : (¬ (Lib.cut (l4.getD (k + 1) []) [58]).2.2 = true ∨ wordF (Lib.cut (l4.getD (k + 1) []) [58]).1 64 = false ∨ valueF (Lib.trimS (Lib.cut (l4.getD (k + 1) []) [58]).2.1 [9, 32]) = false) := by
                                                    rcases hcc with hcc | ⟨hcc, h58⟩
                                                    · exact .inl (by rw [cut_at_no (fun j hj => hna j (by omega))]; simp)
                                                    · have hcut := cut_at hna hcc h58
                                                      rcases hc11 with (h | h) | h
                                                      · omega
                                                      · exact .inr (.inl (by rw [hcut.2.1]; exact h))
                                                      · exact .inr (.inr (by rw [hcut.2.2, trim_set]; exact h))
                                                  refine At.seq ?_
                                                  refine At.region ?_
                                                  refine AtL.build (cs := [str [], str [], .int .i64 0, .slice none 0 0]) tf_lay24 (.inl rfl) rfl rfl rfl ?_
                                                  refine AtL.store (H' := [(b15, .cells #[str ((spF 32 (ls.getD 0 [])).getD 0 []), str ((spF 32 (ls.getD 0 [])).getD 1 []), .int .i64 ((((spF 32 (ls.getD 0 [])).getD 2 []).getD 7 0 - 48 : UInt8).toNat : Int), .slice x.A x.l.length x.C] 24 (0, 0))] :: x.s :: s5 :: [(b1, .cells #[str [], str [], .int .i64 0, .slice none 0 0] 24 (0, 0))] :: H) 3 0 tf_sz24 (.inl rfl) rfl rfl rfl rfl rfl rfl rfl rfl rfl ?_
                                                  refine AtL.assign (.inl rfl) rfl rfl ?_
                                                  refine AtL.done ?_
                                                  refine At.nil ?_
                                                  have hp : parseF b = (.zero, 400) := by rw [hp0, headF_eq, if_neg hn3, if_neg (by rw [hver]; simp), if_neg (fun h5 => hc5 ((ver_is hver).2 h5)), if_neg (by omega), if_neg (by simpa using hc7), hfl, hst, if_neg (by omega), if_pos hbad]
                                                  exact At.retMP (vs := [.agg #[str [], str [], .int .i64 0, .slice none 0 0], .int .i64 400]) (H2 := [] :: H) [0] 5 rfl rfl Tryd.func42 rfl ⟨⟨_, rfl, LoadsTo.agg (cs := [str [], str [], .int .i64 0, .slice none 0 0]) tf_agg24 rfl (cellsOwn 4 0 0 rfl rfl rfl)⟩, rfl, trivial⟩ (⟨Sl.nil, by rw [hp]; rfl, by rw [hp]; rfl, rfl⟩)
                                                · intro hc11
                                                  have hc11 : ¬ ((((a : Int) = ((l4.getD (k + 1 : Nat) []).length : Int)) ∨ ((wordF (subl (l4.getD (k + 1 : Nat) []) 0 a) 64) = false)) ∨ ((valueF (trimF (subl (l4.getD (k + 1 : Nat) []) (a + 1) (l4.getD (k + 1 : Nat) []).length))) = false)) := of_decide_eq_false hc11
                                                  simp only [not_or] at hc11
                                                  have hcut := cut_at hna (show a < (l4.getD (k + 1) []).length by omega) (by rcases hcc with h | h; omega; exact h.2)
                                                  have hok : ¬ (¬ (Lib.cut (l4.getD (k + 1) []) [58]).2.2 = true ∨ wordF (Lib.cut (l4.getD (k + 1) []) [58]).1 64 = false ∨ valueF (Lib.trimS (Lib.cut (l4.getD (k + 1) []) [58]).2.1 [9, 32]) = false) := by rw [hcut.1, hcut.2.1, hcut.2.2, trim_set]; simp only [not_or]; exact ⟨by simp, hc11.1.2, hc11.2⟩
                                                  refine At.skip ?_
                                                  refine At.draw (es := [17, 18, 20]) (pv := [(0, .pointer (some ⟨b15, 3, none⟩)), (1, .slice x.A x.l.length x.C), (2, .slice A2 l4.length C3), (3, .int .i64 ((k + 1 : Nat) : Int)), (4, .pointer (some (eaddr A2 ((k + 1 : Nat) * tyS.sz)))), (5, str (l4.getD (k + 1 : Nat) [])), (6, .int .i64 (a : Int)), (7, str (subl (l4.getD (k + 1 : Nat) []) 0 a)), (8, .slice A2 l4.length C3), (9, .int .i64 ((k + 1 : Nat) : Int)), (10, .pointer (some (eaddr A2 ((k + 1 : Nat) * tyS.sz)))), (11, str (l4.getD (k + 1 : Nat) [])), (12, .int .i64 (a : Int)), (13, .int .i64 ((a : Int) + 1)), (14, str (subl (l4.getD (k + 1 : Nat) []) (a + 1) (l4.getD (k + 1 : Nat) []).length)), (15, str (trimF (subl (l4.getD (k + 1 : Nat) []) (a + 1) (l4.getD (k + 1 : Nat) []).length))), (16, .agg #[str (subl (l4.getD (k + 1 : Nat) []) 0 a), str (trimF (subl (l4.getD (k + 1 : Nat) []) (a + 1) (l4.getD (k + 1 : Nat) []).length))])]) tf_mixed (by kernel_rfl) (by kernel_rfl) (by kernel_rfl) ?_
                                                  refine ⟨⟨.inr ⟨_, rfl, rfl, .inl ⟨rfl, Do.fieldAddrB tf_fo24_3 rfl rfl⟩⟩, .inr ⟨_, rfl, rfl, .inl ⟨rfl, Do.load tf_flat22 rfl (Cell.own 0 0 rfl rfl rfl)⟩⟩, .inr ⟨_, rfl, rfl, .inl ⟨rfl, Do.move rfl⟩⟩, .inr ⟨_, rfl, rfl, .inl ⟨rfl, Do.move rfl⟩⟩, .inr ⟨_, rfl, rfl, .inl ⟨rfl, Do.indexL (k + 1 : Nat) (o6.rd (i := 2) rfl) Tryd.underlying38 tf_sz9 rfl rfl rfl (by omega)⟩⟩, .inr ⟨_, rfl, rfl, .inl ⟨rfl, Do.load (v := str (l4.getD (k + 1 : Nat) [])) tf_flat9 rfl (Rd.cell0 (o6.rd (i := 2) rfl) (getD_some [] (by omega)) rfl)⟩⟩, .inr ⟨_, rfl, rfl, .inl ⟨rfl, Do.move rfl⟩⟩, .inr ⟨_, rfl, rfl, .inl ⟨rfl, Do.sliceS (l := (l4.getD (k + 1 : Nat) [])) 0 a rfl (evBound_some rfl rfl) (by omega) (by omega) Tryd.underlying9 rfl⟩⟩, .inr ⟨_, rfl, rfl, .inl ⟨rfl, Do.move rfl⟩⟩, .inr ⟨_, rfl, rfl, .inl ⟨rfl, Do.move rfl⟩⟩, .inr ⟨_, rfl, rfl, .inl ⟨rfl, Do.indexL (k + 1 : Nat) (o6.rd (i := 2) rfl) Tryd.underlying38 tf_sz9 rfl rfl rfl (by omega)⟩⟩, .inr ⟨_, rfl, rfl, .inl ⟨rfl, Do.load (v := str (l4.getD (k + 1 : Nat) [])) tf_flat9 rfl (Rd.cell0 (o6.rd (i := 2) rfl) (getD_some [] (by omega)) rfl)⟩⟩, .inr ⟨_, rfl, rfl, .inl ⟨rfl, Do.move rfl⟩⟩, .inr ⟨_, rfl, rfl, .inl ⟨rfl, Do.add (z := (a : Int) + 1) rfl rfl (w64 (by omega) (by omega))⟩⟩, .inr ⟨_, rfl, rfl, .inl ⟨rfl, Do.sliceS (l := (l4.getD (k + 1 : Nat) [])) (a + 1) (l4.getD (k + 1 : Nat) []).length (evBound_some rfl rfl) rfl (by omega) (by omega) Tryd.underlying9 rfl⟩⟩, .inr ⟨_, rfl, rfl, .inl ⟨rfl, Do.call tf_body85 rfl (rtrim_ok (l := subl (l4.getD (k + 1 : Nat) []) (a + 1) (l4.getD (k + 1 : Nat) []).length) (by rw [subl_len (Nat.le_refl _)]; omega))⟩⟩, .inr ⟨_, rfl, rfl, .inl ⟨rfl, Do.build (cs := [str (subl (l4.getD (k + 1 : Nat) []) 0 a), str (trimF (subl (l4.getD (k + 1 : Nat) []) (a + 1) (l4.getD (k + 1 : Nat) []).length))]) tf_lay67 rfl rfl⟩⟩, trivial⟩, rfl, rfl, by kernel_rfl, _, rfl, rfl, rfl, _, Do.buildSlice (cs := [str (subl (l4.getD (k + 1 : Nat) []) 0 a), str (trimF (subl (l4.getD (k + 1 : Nat) []) (a + 1) (l4.getD (k + 1 : Nat) []).length))]) Tryd.underlying22 tf_zero67 tf_sz67 rfl rfl rfl rfl, ?_⟩
                                                  rintro _ _ ⟨b17, rfl, rfl⟩
                                                  obtain ⟨s18, hss18, o19⟩ := own_new tyField 67 b17 ([(subl (l4.getD (k + 1 : Nat) []) 0 a, trimF (subl (l4.getD (k + 1 : Nat) []) (a + 1) (l4.getD (k + 1 : Nat) []).length))] : List (List UInt8 × List UInt8)) 1 [str (subl (l4.getD (k + 1 : Nat) []) 0 a), str (trimF (subl (l4.getD (k + 1 : Nat) []) (a + 1) (l4.getD (k + 1 : Nat) []).length))] rfl rfl (by simp)
                                                  rw [← hss18]
                                                  refine ⟨[], rfl, ?_⟩
                                                  refine ⟨⟨.inr ⟨_, rfl, rfl, .inl ⟨rfl, Do.fieldAddrB tf_fo24_3 rfl rfl⟩⟩, .inr ⟨_, rfl, rfl, .inl ⟨rfl, Do.load tf_flat22 rfl (Cell.own 1 0 rfl rfl rfl)⟩⟩, .inl (by kernel_rfl), .inl (by kernel_rfl), .inl (by kernel_rfl), .inl (by kernel_rfl), .inl (by kernel_rfl), .inl (by kernel_rfl), .inl (by kernel_rfl), .inl (by kernel_rfl), .inl (by kernel_rfl), .inl (by kernel_rfl), .inl (by kernel_rfl), .inl (by kernel_rfl), .inl (by kernel_rfl), .inl (by kernel_rfl), .inl (by kernel_rfl), trivial⟩, rfl, rfl, by kernel_rfl, _, rfl, rfl, rfl, _, Do.append (l := x.l) (news := [(subl (l4.getD (k + 1 : Nat) []) 0 a, trimF (subl (l4.getD (k + 1 : Nat) []) (a + 1) (l4.getD (k + 1 : Nat) []).length))]) 2 tf_el22 rfl x.own (o19.rd (i := 0) rfl) (by first | omega | (simp only [List.length_append, List.length_cons, List.length_nil]; omega) | (simp; done) | (simp; omega)) rfl rfl, ?_⟩
                                                  rintro _ _ ⟨A20, C21, s22, o23, rfl, rfl⟩
                                                  refine ⟨[(19, .pointer (some ⟨b15, 3, none⟩))], rfl, ?_⟩
                                                  refine ⟨⟨.inr ⟨_, rfl, rfl, .inl ⟨rfl, Do.fieldAddrB tf_fo24_3 rfl rfl⟩⟩, .inl (by kernel_rfl), .inl (by kernel_rfl), .inl (by kernel_rfl), .inl (by kernel_rfl), .inl (by kernel_rfl), .inl (by kernel_rfl), .inl (by kernel_rfl), .inl (by kernel_rfl), .inl (by kernel_rfl), .inl (by kernel_rfl), .inl (by kernel_rfl), .inl (by kernel_rfl), .inl (by kernel_rfl), .inl (by kernel_rfl), .inl (by kernel_rfl), .inl (by kernel_rfl), .inl (by kernel_rfl), trivial⟩, rfl, rfl, by kernel_rfl, _, rfl, rfl, rfl, _, Do.store (H' := s18 :: [(b15, .cells #[str ((spF 32 (ls.getD 0 [])).getD 0 []), str ((spF 32 (ls.getD 0 [])).getD 1 []), .int .i64 ((((spF 32 (ls.getD 0 [])).getD 2 []).getD 7 0 - 48 : UInt8).toNat : Int), .slice A20 (x.l ++ ([(subl (l4.getD (k + 1 : Nat) []) 0 a, trimF (subl (l4.getD (k + 1 : Nat) []) (a + 1) (l4.getD (k + 1 : Nat) []).length))])).length C21] 24 (0, 0))] :: s22 :: s5 :: [(b1, .cells #[str [], str [], .int .i64 0, .slice none 0 0] 24 (0, 0))] :: H) 1 0 tf_sz22 rfl rfl rfl rfl rfl rfl rfl rfl rfl, ?_⟩
                                                  rintro _ _ ⟨rfl, rfl⟩
                                                  refine ⟨[], rfl, ?_⟩
                                                  refine ⟨⟨.inl (by kernel_rfl), .inl (by kernel_rfl), .inl (by kernel_rfl), .inl (by kernel_rfl), .inl (by kernel_rfl), .inl (by kernel_rfl), .inl (by kernel_rfl), .inl (by kernel_rfl), .inl (by kernel_rfl), .inl (by kernel_rfl), .inl (by kernel_rfl), .inl (by kernel_rfl), .inl (by kernel_rfl), .inl (by kernel_rfl), .inl (by kernel_rfl), .inl (by kernel_rfl), .inl (by kernel_rfl), .inl (by kernel_rfl), trivial⟩, by kernel_rfl, ?_⟩
                                                  refine At.mono (E' := [(2, .pointer (some ⟨b1, 0, none⟩)), (4, .slice A2 l4.length C3), (8, .pointer (some ⟨b15, 0, none⟩)), (9, .int .i64 ((k + 1 : Nat) : Int))]) ⟨rfl, rfl, rfl, rfl, trivial⟩ ?_
                                                  refine At.inBlock ?_
                                                  refine At.region ?_
                                                  refine AtL.move (.inl rfl) rfl rfl ?_
                                                  refine AtL.add (z := ((k + 1 : Nat) : Int) + 1) (.inl rfl) rfl rfl rfl (w64 (by omega) (by omega)) ?_
                                                  refine AtL.assign (.inl rfl) rfl rfl ?_
                                                  refine AtL.done ?_
                                                  refine At.pick (H' := [(b15, .cells #[str ((spF 32 (ls.getD 0 [])).getD 0 []), str ((spF 32 (ls.getD 0 [])).getD 1 []), .int .i64 ((((spF 32 (ls.getD 0 [])).getD 2 []).getD 7 0 - 48 : UInt8).toNat : Int), .slice A20 (x.l ++ ([(subl (l4.getD (k + 1 : Nat) []) 0 a, trimF (subl (l4.getD (k + 1 : Nat) []) (a + 1) (l4.getD (k + 1 : Nat) []).length))])).length C21] 24 (0, 0))] :: s22 :: s5 :: [(b1, .cells #[str [], str [], .int .i64 0, .slice none 0 0] 24 (0, 0))] :: H) [1, 2, 3, 4] 5 rfl rfl ?_
                                                  refine ihL1 (k + 1) (⟨A20, C21, x.l ++ ([(subl (l4.getD (k + 1 : Nat) []) 0 a, trimF (subl (l4.getD (k + 1 : Nat) []) (a + 1) (l4.getD (k + 1 : Nat) []).length))]), s22, o23⟩) (⟨by omega, ⟨by simp; omega, by omega⟩, by rw [hfl, hst, if_neg (by omega), if_neg hok]; rw [hcut.2.1, hcut.2.2, trim_set]; cases fieldsF ((ls.drop 1).drop (k + 1)) (k + 1) <;> simp, fun f hf => by
                                                        rcases List.mem_append.1 hf with hf | hf
                                                        · exact hxb f hf
                                                        · simp only [List.mem_singleton] at hf; subst hf; exact ⟨by dsimp only; rw [subl_len (by omega)]; omega, by dsimp only; have := trimF_le (subl (l4.getD (k + 1) []) (a + 1) (l4.getD (k + 1) []).length); rw [subl_len (Nat.le_refl _)] at this; omega⟩⟩) (by omega) _ ?_
                                                  exact ⟨rfl, rfl, rfl, (by first | rfl | exact slLen (by simp [hxl]) | exact intEq (by omega) | exact intEq (by simp [hxl]) | exact slLen (by simp [hxl]; omega)), trivial⟩
                                    · intro hc8
                                      have hc8 : ¬ (((k + 1 : Nat) : Int) < ((l4.length : Int) - 1)) := of_decide_eq_false hc8
                                      refine At.exit rfl ?_
                                      refine At.seq ?_
                                      refine At.seq ?_
                                      refine At.region ?_
                                      refine AtL.loadN (cs := [str ((spF 32 (ls.getD 0 [])).getD 0 []), str ((spF 32 (ls.getD 0 [])).getD 1 []), .int .i64 ((((spF 32 (ls.getD 0 [])).getD 2 []).getD 7 0 - 48 : UInt8).toNat : Int), .slice x.A x.l.length x.C]) tf_agg24 (.inl rfl) rfl rfl rfl (cellsOwn 0 0 0 rfl rfl rfl) ?_
                                      refine AtL.call tf_body86 (.inl rfl) rfl rfl (rhosts_ok (m := ((spF 32 (ls.getD 0 [])).getD 0 [])) (t := ((spF 32 (ls.getD 0 [])).getD 1 [])) (minor := ((((spF 32 (ls.getD 0 [])).getD 2 []).getD 7 0 - 48 : UInt8).toNat : Int)) (fs := x.l) (x.own.rd (i := 1) rfl) (by omega) (fun f hf => by have := hxb f hf; omega)) ?_
                                      rintro _ _ ⟨rfl, rfl⟩
                                      refine AtL.not (.inl rfl) rfl rfl ?_
                                      refine AtL.done ?_
                                      refine At.cond rfl ?_ ?_
                                      · intro hc12
                                        have hc12 : (hostsF x.l ((((spF 32 (ls.getD 0 [])).getD 2 []).getD 7 0 - 48 : UInt8).toNat : Int)) = false := bnot_true hc12
                                        refine At.seq ?_
                                        refine At.region ?_
                                        refine AtL.build (cs := [str [], str [], .int .i64 0, .slice none 0 0]) tf_lay24 (.inl rfl) rfl rfl rfl ?_
                                        refine AtL.store (H' := [(b15, .cells #[str ((spF 32 (ls.getD 0 [])).getD 0 []), str ((spF 32 (ls.getD 0 [])).getD 1 []), .int .i64 ((((spF 32 (ls.getD 0 [])).getD 2 []).getD 7 0 - 48 : UInt8).toNat : Int), .slice x.A x.l.length x.C] 24 (0, 0))] :: x.s :: s5 :: [(b1, .cells #[str [], str [], .int .i64 0, .slice none 0 0] 24 (0, 0))] :: H) 3 0 tf_sz24 (.inl rfl) rfl rfl rfl rfl rfl rfl rfl rfl rfl ?_
                                        refine AtL.assign (.inl rfl) rfl rfl ?_
                                        refine AtL.done ?_
                                        refine At.nil ?_
                                        have hend : fieldsF (ls.drop 1) 0 = .inr x.l := by rw [hfl, List.drop_eq_nil_of_le (by omega), fieldsF]; simp
                                        have hp : parseF b = (.zero, 400) := by rw [hp0, headF_eq, if_neg hn3, if_neg (by rw [hver]; simp), if_neg (fun h5 => hc5 ((ver_is hver).2 h5)), if_neg (by omega), if_neg (by simpa using hc7), hend]; simp only []; rw [if_neg (by simpa using hc12)]
                                        exact At.retMP (vs := [.agg #[str [], str [], .int .i64 0, .slice none 0 0], .int .i64 400]) (H2 := [] :: H) [0] 5 rfl rfl Tryd.func42 rfl ⟨⟨_, rfl, LoadsTo.agg (cs := [str [], str [], .int .i64 0, .slice none 0 0]) tf_agg24 rfl (cellsOwn 4 0 0 rfl rfl rfl)⟩, rfl, trivial⟩ (⟨Sl.nil, by rw [hp]; rfl, by rw [hp]; rfl, rfl⟩)
                                      · intro hc12
                                        have hc12 : (hostsF x.l ((((spF 32 (ls.getD 0 [])).getD 2 []).getD 7 0 - 48 : UInt8).toNat : Int)) = true := bnot_false hc12
                                        refine At.skip ?_
                                        refine At.seq ?_
                                        refine At.region ?_
                                        refine AtL.loadN (cs := [str ((spF 32 (ls.getD 0 [])).getD 0 []), str ((spF 32 (ls.getD 0 [])).getD 1 []), .int .i64 ((((spF 32 (ls.getD 0 [])).getD 2 []).getD 7 0 - 48 : UInt8).toNat : Int), .slice x.A x.l.length x.C]) tf_agg24 (.inl rfl) rfl rfl rfl (cellsOwn 0 0 0 rfl rfl rfl) ?_
                                        refine AtL.store (H' := [(b15, .cells #[str ((spF 32 (ls.getD 0 [])).getD 0 []), str ((spF 32 (ls.getD 0 [])).getD 1 []), .int .i64 ((((spF 32 (ls.getD 0 [])).getD 2 []).getD 7 0 - 48 : UInt8).toNat : Int), .slice x.A x.l.length x.C] 24 (0, 0))] :: x.s :: s5 :: [(b1, .cells #[str ((spF 32 (ls.getD 0 [])).getD 0 []), str ((spF 32 (ls.getD 0 [])).getD 1 []), .int .i64 ((((spF 32 (ls.getD 0 [])).getD 2 []).getD 7 0 - 48 : UInt8).toNat : Int), .slice x.A x.l.length x.C] 24 (0, 0))] :: H) 3 0 tf_sz24 (.inl rfl) rfl rfl rfl rfl rfl rfl rfl rfl rfl ?_
                                        refine AtL.assign (.inl rfl) rfl rfl ?_
                                        refine AtL.done ?_
                                        have hend : fieldsF (ls.drop 1) 0 = .inr x.l := by rw [hfl, List.drop_eq_nil_of_le (by omega), fieldsF]; simp
                                        have hp : parseF b = (⟨(spF 32 (ls.getD 0 [])).getD 0 [], (spF 32 (ls.getD 0 [])).getD 1 [], ((((spF 32 (ls.getD 0 [])).getD 2 []).getD 7 0 - 48).toNat : Int), x.l⟩, 200) := by rw [hp0, headF_eq, if_neg hn3, if_neg (by rw [hver]; simp), if_neg (fun h5 => hc5 ((ver_is hver).2 h5)), if_neg (by omega), if_neg (by simpa using hc7), hend]; simp only []; rw [if_pos (by simpa using hc12)]
                                        exact At.retMP (vs := [.agg #[str ((spF 32 (ls.getD 0 [])).getD 0 []), str ((spF 32 (ls.getD 0 [])).getD 1 []), .int .i64 ((((spF 32 (ls.getD 0 [])).getD 2 []).getD 7 0 - 48 : UInt8).toNat : Int), .slice x.A x.l.length x.C], .int .i64 200]) (H2 := x.s :: H) [1] 4 rfl rfl Tryd.func42 rfl ⟨⟨_, rfl, LoadsTo.agg (cs := [str ((spF 32 (ls.getD 0 [])).getD 0 []), str ((spF 32 (ls.getD 0 [])).getD 1 []), .int .i64 ((((spF 32 (ls.getD 0 [])).getD 2 []).getD 7 0 - 48 : UInt8).toNat : Int), .slice x.A x.l.length x.C]) tf_agg24 rfl (cellsOwn 3 0 0 rfl rfl rfl)⟩, rfl, trivial⟩ (⟨x, by rw [hp]; rfl, by rw [hp], rfl⟩)

end Go.Proofs.YtlfkoimkojbghaaDoor
