/- Requests: the answer beside it. -/
import Derived.Test.YtlfkoimkojbghaaDoorE6
import Derived.Test.YtlfkoimkojbghaaDoorER2
namespace Go.Proofs.YtlfkoimkojbghaaDoor
set_option linter.unusedVariables false
set_option linter.unusedSimpArgs false
set_option maxRecDepth 100000

theorem occ_c {c : UInt8} {s : List UInt8} {j : Nat} : Lib.occAt s [c] j = true → j < s.length ∧ ((s.getD j 0).toNat : Int) = (c.toNat : Int) := by
  intro h
  rw [Lib.occAt] at h
  by_cases hj : j < s.length
  · rw [List.drop_eq_getElem_cons hj] at h
    simp only [List.isPrefixOf, Bool.and_true] at h
    have e : s.getD j 0 = s[j] := by simp [List.getD, hj]
    rw [e, eq_of_beq h]; exact ⟨hj, rfl⟩
  · rw [List.drop_eq_nil_of_le (by omega)] at h; cases h
theorem cut_at {c : UInt8} {s : List UInt8} {i : Nat} (hi : i < s.length) (h : ∀ j, j < i → ¬ ((s.getD j 0).toNat : Int) = (c.toNat : Int)) (hc : ((s.getD i 0).toNat : Int) = (c.toNat : Int)) : Lib.cut s [c] = (subl s 0 i, subl s (i + 1) s.length, true) := by
  have hcc : s.getD i 0 = c := u8_same hc
  have e : Lib.index s [c] = (i : Int) := Lib.index_first (by omega) (by
    rw [Lib.occAt, List.drop_eq_getElem_cons hi]
    have e : s[i] = c := by rw [← hcc]; simp [List.getD, hi]
    rw [e]; simp [List.isPrefixOf]) fun j hj => by
      cases ho : Lib.occAt s [c] j with
      | false => rfl
      | true => exact absurd (occ_c ho).2 (h j hj)
  unfold Lib.cut
  rw [e, if_pos (by omega), Int.toNat_natCast, subl_to, subl_from]; rfl
theorem cut_not {c : UInt8} {s : List UInt8} {i : Nat} (hi : s.length ≤ i) (h : ∀ j, j < i → ¬ ((s.getD j 0).toNat : Int) = (c.toNat : Int)) : Lib.cut s [c] = (s, [], false) := by
  have e : Lib.index s [c] = -1 := Lib.index_none fun j hj => by
    cases ho : Lib.occAt s [c] j with
    | false => rfl
    | true => have := occ_c ho; exact absurd this.2 (h j (by omega))
  unfold Lib.cut
  rw [e, if_neg (by decide)]
theorem dns_pref {a : List UInt8} : ((4 : Int) ≤ (a.length : Int) ∧ subl a 0 4 = [100, 110, 115, 61]) ↔ DNSE <+: a := by
  rw [subl_to, List.prefix_iff_eq_take]
  constructor
  · intro h; exact h.2.symm
  · intro h
    refine ⟨?_, h.symm⟩
    have := congrArg List.length h
    rw [List.length_take] at this
    have e : DNSE.length = 4 := rfl
    omega

set_option maxHeartbeats 400000 in
theorem rcut_ok {w0 : World} {base : Nat} {H : List Seg} {s : List UInt8} (c : UInt8) (hs : s.length ≤ 4294967280) :
    SCalls Tryd.prog 57 [str s, .int .u8 (c.toNat : Int)] w0 base (H) (fun v H' => v = .tuple #[str (Lib.cut s [c]).1, str (Lib.cut s [c]).2.1, .bool (Lib.cut s [c]).2.2] ∧ H' = H) := by
  refine SCalls.of_walk (n := 27) Tryd.func57 rfl rfl rfl fun cs => ?_
  refine At.seq ?_
  refine At.region ?_
  refine AtL.assign (.inl rfl) rfl rfl ?_
  refine AtL.assign (.inl rfl) rfl rfl ?_
  refine AtL.assign (.inl rfl) rfl rfl ?_
  refine AtL.done ?_
  refine At.seq ?_
  refine At.seq ?_
  refine At.region ?_
  refine AtL.assign (.inl rfl) rfl rfl ?_
  refine AtL.done ?_
  refine At.block ?_
  refine At.loop (fun (i : Nat) => [(0, str s), (1, .int .u8 (c.toNat : Int)), (7, .int .i64 (i : Int))]) (fun (i : Nat) => H) (fun (i : Nat) => i ≤ s.length ∧ ∀ j, j < i → ¬ ((s.getD j 0).toNat : Int) = (c.toNat : Int)) (fun (i : Nat) => s.length - i) 0 (⟨Nat.zero_le _, fun j hj => absurd hj (by omega)⟩) ⟨rfl, rfl, rfl, trivial⟩ rfl ?_
  rintro i ⟨hi, hno⟩ ihL1
  refine At.seq ?_
  refine At.seq ?_
  refine At.region ?_
  refine AtL.move (.inl rfl) rfl rfl ?_
  refine AtL.move (.inl rfl) rfl rfl ?_
  refine AtL.lenS (l := s) Tryd.underlying9 (.inl rfl) rfl rfl ?_
  refine AtL.lss (.inl rfl) rfl rfl rfl ?_
  refine AtL.done ?_
  refine At.cond rfl ?_ ?_
  · intro hc1
    have hc1 : (i : Int) < (s.length : Int) := of_decide_eq_true hc1
    refine At.skip ?_
    refine At.seq ?_
    refine At.block ?_
    refine At.seq ?_
    refine At.region ?_
    refine AtL.move (.inl rfl) rfl rfl ?_
    refine AtL.move (.inl rfl) rfl rfl ?_
    refine AtL.indexS (l := s) i rfl (by omega) Tryd.underlying9 (.inl rfl) rfl rfl rfl ?_
    refine AtL.move (.inl rfl) rfl rfl ?_
    refine AtL.eqi (.inl rfl) rfl rfl rfl ?_
    refine AtL.done ?_
    refine At.cond rfl ?_ ?_
    · intro hc2
      have hc2 : ((s.getD i 0).toNat : Int) = (c.toNat : Int) := of_decide_eq_true hc2
      refine At.seq ?_
      refine At.draw (es := []) (pv := [(0, str s), (1, .int .i64 (i : Int)), (2, str (subl s 0 i)), (3, str s), (4, .int .i64 (i : Int)), (5, .int .i64 ((i : Int) + 1)), (6, str (subl s (i + 1) s.length)), (7, str (subl s 0 i)), (8, str (subl s (i + 1) s.length)), (9, .bool true)]) tf_mixed (by kernel_rfl) (by kernel_rfl) (by kernel_rfl) ?_
      refine ⟨⟨.inr ⟨_, rfl, rfl, .inl ⟨rfl, Do.move rfl⟩⟩, .inr ⟨_, rfl, rfl, .inl ⟨rfl, Do.move rfl⟩⟩, .inr ⟨_, rfl, rfl, .inl ⟨rfl, Do.sliceS (l := s) 0 i rfl (evBound_some rfl rfl) (by omega) (by omega) Tryd.underlying9 rfl⟩⟩, .inr ⟨_, rfl, rfl, .inl ⟨rfl, Do.move rfl⟩⟩, .inr ⟨_, rfl, rfl, .inl ⟨rfl, Do.move rfl⟩⟩, .inr ⟨_, rfl, rfl, .inl ⟨rfl, Do.add (z := (i : Int) + 1) rfl rfl (w64 (by omega) (by omega))⟩⟩, .inr ⟨_, rfl, rfl, .inl ⟨rfl, Do.sliceS (l := s) (i + 1) s.length (evBound_some rfl rfl) rfl (by omega) (by omega) Tryd.underlying9 rfl⟩⟩, .inr ⟨_, rfl, rfl, .inl ⟨rfl, Do.assign rfl⟩⟩, .inr ⟨_, rfl, rfl, .inl ⟨rfl, Do.assign rfl⟩⟩, .inr ⟨_, rfl, rfl, .inl ⟨rfl, Do.assign rfl⟩⟩, trivial⟩, by kernel_rfl, ?_⟩
      refine At.mono (E' := [(4, str (subl s 0 i)), (5, str (subl s (i + 1) s.length)), (6, .bool true)]) ⟨rfl, rfl, rfl, trivial⟩ ?_
      exact At.ret Tryd.func57 rfl rfl (⟨by rw [cut_at (by omega) hno hc2]; rfl, rfl⟩)
    · intro hc2
      have hc2 : ¬ (((s.getD i 0).toNat : Int) = (c.toNat : Int)) := of_decide_eq_false hc2
      refine At.skip ?_
      refine At.inBlock ?_
      refine At.region ?_
      refine AtL.move (.inl rfl) rfl rfl ?_
      refine AtL.add (z := (i : Int) + 1) (.inl rfl) rfl rfl rfl (w64 (by omega) (by omega)) ?_
      refine AtL.assign (.inl rfl) rfl rfl ?_
      refine AtL.done ?_
      refine ihL1 (i + 1) (⟨by omega, fun j hj => by rcases Nat.lt_or_ge j i with h1 | h1; exact hno j h1; obtain rfl : j = i := (by omega); exact hc2⟩) (by omega) _ ?_
      exact ⟨rfl, rfl, (by first | rfl | exact slLen (by simp []) | exact intEq (by omega) | exact intEq (by simp []) | exact slLen (by simp []; omega)), trivial⟩
  · intro hc1
    have hc1 : ¬ ((i : Int) < (s.length : Int)) := of_decide_eq_false hc1
    refine At.exit rfl ?_
    refine At.seq ?_
    refine At.region ?_
    refine AtL.move (.inl rfl) rfl rfl ?_
    refine AtL.assign (.inl rfl) rfl rfl ?_
    refine AtL.assign (.inl rfl) rfl rfl ?_
    refine AtL.assign (.inl rfl) rfl rfl ?_
    refine AtL.done ?_
    exact At.ret Tryd.func57 rfl rfl (⟨by rw [cut_not (by omega) hno]; rfl, rfl⟩)

theorem rcut_38 {w0 : World} {base : Nat} {H : List Seg} {s : List UInt8} (hs : s.length ≤ 4294967280) : SCalls Tryd.prog 57 [str s, .int .u8 38] w0 base H (fun v H' => v = .tuple #[str (Lib.cut s [38]).1, str (Lib.cut s [38]).2.1, .bool (Lib.cut s [38]).2.2] ∧ H' = H) := by
  have h := rcut_ok (w0 := w0) (base := base) (H := H) (s := s) 38 hs
  have e : ((38 : UInt8).toNat : Int) = 38 := by decide
  rw [e] at h
  exact h

theorem rcut_63 {w0 : World} {base : Nat} {H : List Seg} {s : List UInt8} (hs : s.length ≤ 4294967280) : SCalls Tryd.prog 57 [str s, .int .u8 63] w0 base H (fun v H' => v = .tuple #[str (Lib.cut s [63]).1, str (Lib.cut s [63]).2.1, .bool (Lib.cut s [63]).2.2] ∧ H' = H) := by
  have h := rcut_ok (w0 := w0) (base := base) (H := H) (s := s) 63 hs
  have e : ((63 : UInt8).toNat : Int) = 63 := by decide
  rw [e] at h
  exact h

set_option maxHeartbeats 400000 in
theorem rpath_ok {w0 : World} {base : Nat} {H : List Seg} {t : List UInt8} (ht : t.length ≤ 4294967280) :
    SCalls Tryd.prog 18 [str t] w0 base (H) (fun v H' => v = .tuple #[str (Lib.cut t [63]).1, str (Lib.cut t [63]).2.1] ∧ H' = H) := by
  refine SCalls.of_walk (n := 15) Tryd.func18 rfl rfl rfl fun cs => ?_
  refine At.seq ?_
  refine At.region ?_
  refine AtL.assign (.inl rfl) rfl rfl ?_
  refine AtL.assign (.inl rfl) rfl rfl ?_
  refine AtL.done ?_
  refine At.seq ?_
  refine At.region ?_
  refine AtL.move (.inl rfl) rfl rfl ?_
  refine AtL.call tf_body57 (.inl rfl) rfl rfl (rcut_63 (s := t) (by omega)) ?_
  rintro _ _ ⟨rfl, hHq⟩
  obtain rfl := hHq.symm
  refine AtL.move (.inl rfl) rfl rfl ?_
  refine AtL.extract (.inl rfl) rfl rfl rfl ?_
  refine AtL.extract (.inl rfl) rfl rfl rfl ?_
  refine AtL.extract (.inl rfl) rfl rfl rfl ?_
  refine AtL.assign (.inl rfl) rfl rfl ?_
  refine AtL.assign (.inl rfl) rfl rfl ?_
  refine AtL.assign (.inl rfl) rfl rfl ?_
  refine AtL.done ?_
  refine At.seq ?_
  refine At.region ?_
  refine AtL.move (.inl rfl) rfl rfl ?_
  refine AtL.move (.inl rfl) rfl rfl ?_
  refine AtL.assign (.inl rfl) rfl rfl ?_
  refine AtL.assign (.inl rfl) rfl rfl ?_
  refine AtL.done ?_
  exact At.ret Tryd.func18 rfl rfl (⟨rfl, rfl⟩)

set_option maxHeartbeats 400000 in
theorem rpart_ok {w0 : World} {base : Nat} {H : List Seg} {t : List UInt8} (ht : t.length ≤ 4294967280) :
    SCalls Tryd.prog 52 [str t] w0 base (H) (fun v H' => v = .tuple #[str ((partF t).getD []), .bool (partF t).isSome] ∧ H' = H) := by
  refine SCalls.of_walk (n := 26) Tryd.func52 rfl rfl rfl fun cs => ?_
  refine At.seq ?_
  refine At.region ?_
  refine AtL.assign (.inl rfl) rfl rfl ?_
  refine AtL.assign (.inl rfl) rfl rfl ?_
  refine AtL.done ?_
  refine At.block ?_
  refine At.loop (fun (q : List UInt8) => [(0, str q)]) (fun (q : List UInt8) => H) (fun (q : List UInt8) => partF t = partF q ∧ q.length ≤ t.length) (fun (q : List UInt8) => q.length) t (⟨rfl, Nat.le_refl _⟩) ⟨rfl, trivial⟩ rfl ?_
  rintro q ⟨hq1, hql⟩ ihL1
  have hcl := cutW_le [38] q
  refine At.block ?_
  refine At.seq ?_
  refine At.region ?_
  refine AtL.move (.inl rfl) rfl rfl ?_
  refine AtL.call tf_body57 (.inl rfl) rfl rfl (rcut_38 (s := q) (by omega)) ?_
  rintro _ _ ⟨rfl, hHq⟩
  obtain rfl := hHq.symm
  refine AtL.move (.inl rfl) rfl rfl ?_
  refine AtL.extract (.inl rfl) rfl rfl rfl ?_
  refine AtL.extract (.inl rfl) rfl rfl rfl ?_
  refine AtL.extract (.inl rfl) rfl rfl rfl ?_
  refine AtL.assign (.inl rfl) rfl rfl ?_
  refine AtL.assign (.inl rfl) rfl rfl ?_
  refine AtL.assign (.inl rfl) rfl rfl ?_
  refine AtL.done ?_
  refine At.seq ?_
  refine At.seq ?_
  refine At.region ?_
  refine AtL.move (.inl rfl) rfl rfl ?_
  refine AtL.lenS (l := (Lib.cut q [38]).1) Tryd.underlying9 (.inl rfl) rfl rfl ?_
  refine AtL.geq (.inl rfl) rfl rfl rfl ?_
  refine AtL.move (.inl rfl) rfl rfl ?_
  refine AtL.join 4 (E' := [(20, .bool (decide ((4 ≤ (((Lib.cut q [38]).1).length : Int)) ∧ (subl ((Lib.cut q [38]).1) 0 4 = [100, 110, 115, 61])))), (4, str ((Lib.cut q [38]).1)), (5, str ((Lib.cut q [38]).2.1)), (6, .bool ((Lib.cut q [38]).2.2))]) (H' := H) (fun J => ?_) ?_
  · refine AtL.split (t := 16) rfl ?_ ?_
    · intro hs16
      have hs16 : 4 ≤ (((Lib.cut q [38]).1).length : Int) := of_decide_eq_true hs16
      refine AtL.move (.inr ⟨_, _, _, rfl, rfl, rfl, rfl⟩) rfl rfl ?_
      refine AtL.sliceS (l := (Lib.cut q [38]).1) 0 4 rfl (evBound_some rfl rfl) (by omega) (by omega) Tryd.underlying9 (.inr ⟨_, _, _, rfl, rfl, rfl, rfl⟩) rfl rfl ?_
      refine AtL.eqs (a := subl ((Lib.cut q [38]).1) 0 4) (b := [100, 110, 115, 61]) (.inr ⟨_, _, _, rfl, rfl, rfl, rfl⟩) rfl rfl rfl ?_
      refine AtL.pickT (.inl rfl) rfl rfl rfl ?_
      exact J _ (by exact ⟨(boolIs (by clear J; first | (simp [hs16]; done) | (simp_all; done) | grind)), rfl, rfl, rfl, trivial⟩)
    · intro hs16
      have hs16 : ¬ (4 ≤ (((Lib.cut q [38]).1).length : Int)) := of_decide_eq_false hs16
      refine AtL.skipped rfl rfl rfl rfl rfl rfl ?_
      refine AtL.skipped rfl rfl rfl rfl rfl rfl ?_
      refine AtL.skipped rfl rfl rfl rfl rfl rfl ?_
      refine AtL.pickF (.inl rfl) rfl rfl rfl ?_
      exact J _ (by exact ⟨(boolIs (by clear J; first | (simp [hs16]; done) | (simp_all; done) | grind)), rfl, rfl, rfl, trivial⟩)
  · skip
    refine AtL.done ?_
    refine At.cond rfl ?_ ?_
    · intro hc1
      have hc1 : (4 ≤ (((Lib.cut q [38]).1).length : Int)) ∧ (subl ((Lib.cut q [38]).1) 0 4 = [100, 110, 115, 61]) := of_decide_eq_true hc1
      refine At.seq ?_
      refine At.region ?_
      refine AtL.move (.inl rfl) rfl rfl ?_
      refine AtL.sliceS (l := (Lib.cut q [38]).1) 4 ((Lib.cut q [38]).1).length (evBound_some rfl rfl) rfl (by omega) (by omega) Tryd.underlying9 (.inl rfl) rfl rfl ?_
      refine AtL.assign (.inl rfl) rfl rfl ?_
      refine AtL.assign (.inl rfl) rfl rfl ?_
      refine AtL.done ?_
      exact At.ret Tryd.func52 rfl rfl (⟨by rw [hq1, part_yes (dns_pref.1 hc1), ← subl_from]; rfl, rfl⟩)
    · intro hc1
      have hc1 : ¬ ((4 ≤ (((Lib.cut q [38]).1).length : Int)) ∧ (subl ((Lib.cut q [38]).1) 0 4 = [100, 110, 115, 61])) := of_decide_eq_false hc1
      refine At.skip ?_
      refine At.seq ?_
      refine At.seq ?_
      refine At.region ?_
      refine AtL.move (.inl rfl) rfl rfl ?_
      refine AtL.not (.inl rfl) rfl rfl ?_
      refine AtL.done ?_
      refine At.cond rfl ?_ ?_
      · intro hc2
        have hc2 : ((Lib.cut q [38]).2.2) = false := bnot_true hc2
        refine At.seq ?_
        refine At.region ?_
        refine AtL.assign (.inl rfl) rfl rfl ?_
        refine AtL.assign (.inl rfl) rfl rfl ?_
        refine AtL.done ?_
        exact At.ret Tryd.func52 rfl rfl (⟨by rw [hq1, part_none (mt dns_pref.2 hc1) hc2]; rfl, rfl⟩)
      · intro hc2
        have hc2 : ((Lib.cut q [38]).2.2) = true := bnot_false hc2
        have hc2q : (Lib.cut q [38]).2.2 = true := by simpa using hc2
        refine At.skip ?_
        refine At.region ?_
        refine AtL.move (.inl rfl) rfl rfl ?_
        refine AtL.assign (.inl rfl) rfl rfl ?_
        refine AtL.done ?_
        refine At.inBlock ?_
        refine ihL1 ((Lib.cut q [38]).2.1) (⟨by rw [hq1, part_more (mt dns_pref.2 hc1) hc2q], by omega⟩) (cut_less hc2q) _ ?_
        exact ⟨(by first | rfl | exact slLen (by simp []) | exact intEq (by omega) | exact intEq (by simp []) | exact slLen (by simp []; omega)), trivial⟩

theorem ask_404 {m t body : List UInt8} {fs : List Fld} (h : ¬ (Lib.cut t [63]).1 = DNSQ) : askF m t fs body = ([], 404) := by rw [askF, if_pos h]
theorem ask_get {m t body : List UInt8} {fs : List Fld} (h : (Lib.cut t [63]).1 = DNSQ) (hm : m = GETM) : askF m t fs body = thenF (getF t) := by rw [askF, if_neg (fun h2 => h2 h), if_pos hm]
theorem ask_post {m t body : List UInt8} {fs : List Fld} (h : (Lib.cut t [63]).1 = DNSQ) (hm : m = POSTM) : askF m t fs body = thenF (postF fs body) := by rw [askF, if_neg (fun h2 => h2 h), if_neg (by rw [hm]; decide), if_pos hm]
theorem ask_405 {m t body : List UInt8} {fs : List Fld} (h : (Lib.cut t [63]).1 = DNSQ) (h1 : ¬ m = GETM) (h2 : ¬ m = POSTM) : askF m t fs body = ([], 405) := by rw [askF, if_neg (fun h2 => h2 h), if_neg h1, if_neg h2]
theorem get_none {t : List UInt8} (h : partF (Lib.cut t [63]).2.1 = none) : getF t = ([], 400) := by rw [getF, h]
theorem get_bad {t s : List UInt8} (h : partF (Lib.cut t [63]).2.1 = some s) (h2 : decB s = none) : getF t = ([], 400) := by rw [getF, h]; dsimp only; rw [h2]
theorem get_good {t s b : List UInt8} (h : partF (Lib.cut t [63]).2.1 = some s) (h2 : decB s = some b) : getF t = (b, 200) := by rw [getF, h]; dsimp only; rw [h2]
theorem then_no {s : Int} (h : ¬ s = 200) (l : List UInt8) : thenF (l, s) = ([], s) := by rw [thenF, if_neg h]
theorem then_few {b : List UInt8} (h : b.length < 12) : thenF (b, 200) = ([], 400) := by rw [thenF, if_pos rfl, sizesF, if_pos h]
theorem then_many {b : List UInt8} (h : ¬ b.length < 12) (h2 : 65535 < b.length) : thenF (b, 200) = ([], 413) := by rw [thenF, if_pos rfl, sizesF, if_neg h, if_pos h2]
theorem then_ok {b : List UInt8} (h : ¬ b.length < 12) (h2 : ¬ 65535 < b.length) : thenF (b, 200) = (b, 200) := by rw [thenF, if_pos rfl, sizesF, if_neg h, if_neg h2]
theorem rpost_cond {fs : List Fld} : (¬ ((fieldF fs CTYPE).2 : Int) = 1 ∨ ¬ lowerF (fieldF fs CTYPE).1 = lowerF MEDIA) ↔ (¬ (fieldF fs CTYPE).2 = 1 ∨ ¬ lowerF (fieldF fs CTYPE).1 = lowerF MEDIA) := by
  have e : ((fieldF fs CTYPE).2 : Int) = 1 ↔ (fieldF fs CTYPE).2 = 1 := by omega
  rw [e]
theorem post_no {fs : List Fld} {body : List UInt8} (h : ¬ (fieldF fs CTYPE).2 = 1 ∨ ¬ lowerF (fieldF fs CTYPE).1 = lowerF MEDIA) : postF fs body = ([], 415) := by rw [postF, if_pos h]
theorem post_yes {fs : List Fld} {body : List UInt8} (h : ¬ (¬ (fieldF fs CTYPE).2 = 1 ∨ ¬ lowerF (fieldF fs CTYPE).1 = lowerF MEDIA)) : postF fs body = (body, 200) := by rw [postF, if_neg h]
theorem part_le (q : List UInt8) : ∀ s, partF q = some s → s.length ≤ q.length := by
  induction q using (measure List.length).wf.induction with
  | _ q ih =>
    intro s h
    have hl := cutW_le [38] q
    by_cases h1 : DNSE <+: (Lib.cut q [38]).1
    · rw [part_yes h1] at h; cases h; rw [List.length_drop]; omega
    · cases h2 : (Lib.cut q [38]).2.2 with
      | true =>
        rw [part_more h1 h2] at h
        have h3 := cut_less h2
        have := ih _ h3 s h
        omega
      | false => rw [part_none h1 h2] at h; cases h

set_option maxHeartbeats 400000 in
theorem rask_ok {w0 : World} {base : Nat} {H : List Seg} {m t : List UInt8} {minor : Int} {A : Option Addr} {C : Nat} {fs : List (List UInt8 × List UInt8)} (h : Rd tyField w0 base H A C fs) {Ab : Option Addr} {Cb : Nat} {body : List UInt8} (hbody : Rd tyB w0 base H Ab Cb body) (hfl : fs.length ≤ 1000) (hb : ∀ f ∈ fs, f.1.length ≤ 4294967280 ∧ f.2.length ≤ 4294967280) (hbl : body.length ≤ 4294967280) (ht : t.length ≤ 4294967280) :
    SCalls Tryd.prog 16 [.agg #[str m, str t, .int .i64 minor, .slice A fs.length C], .slice Ab body.length Cb] w0 base (H) (fun v H' => ∃ x : Sl tyB 5, x.l = (askF m t fs body).1 ∧ v = .tuple #[.slice x.A x.l.length x.C, int (askF m t fs body).2] ∧ H' = x.s :: H) := by
  have hle0 := h.le
  have hcap0 := h.cap
  have hleb := hbody.le
  have hcapb := hbody.cap
  refine SCalls.of_walk (n := 72) Tryd.func16 rfl rfl rfl fun cs => ?_
  refine At.seq ?_
  refine At.region ?_
  refine AtL.box (cs := #[str m, str t, .int .i64 minor, .slice A fs.length C]) rfl (.inl rfl) rfl rfl ?_
  intro b1
  refine AtL.assign (.inl rfl) rfl rfl ?_
  refine AtL.assign (.inl rfl) rfl rfl ?_
  refine AtL.done ?_
  refine At.seq ?_
  refine At.region ?_
  refine AtL.fieldAddrB tf_fo24_1 (.inl rfl) rfl rfl rfl ?_
  refine AtL.load tf_flat9 (.inl rfl) rfl rfl (Cell.own 0 0 rfl rfl rfl) ?_
  refine AtL.call tf_body18 (.inl rfl) rfl rfl (rpath_ok (t := t) (by omega)) ?_
  rintro _ _ ⟨rfl, rfl⟩
  refine AtL.move (.inl rfl) rfl rfl ?_
  refine AtL.extract (.inl rfl) rfl rfl rfl ?_
  refine AtL.extract (.inl rfl) rfl rfl rfl ?_
  refine AtL.assign (.inl rfl) rfl rfl ?_
  refine AtL.assign (.inl rfl) rfl rfl ?_
  refine AtL.done ?_
  refine At.seq ?_
  refine At.seq ?_
  refine At.region ?_
  refine AtL.move (.inl rfl) rfl rfl ?_
  refine AtL.nes (a := (Lib.cut t [63]).1) (b := [47, 100, 110, 115, 45, 113, 117, 101, 114, 121]) (.inl rfl) rfl rfl rfl ?_
  refine AtL.done ?_
  refine At.cond rfl ?_ ?_
  · intro hc1
    have hc1 : ¬ ((Lib.cut t [63]).1 = [47, 100, 110, 115, 45, 113, 117, 101, 114, 121]) := of_decide_eq_false (bnot_true hc1)
    refine At.seq ?_
    refine At.region ?_
    refine AtL.assign (.inl rfl) rfl rfl ?_
    refine AtL.assign (.inl rfl) rfl rfl ?_
    refine AtL.done ?_
    have hr : askF m t fs body = ([], 404) := ask_404 hc1
    refine At.nil ?_
    refine At.pick (H' := [] :: H) [0] 2 rfl rfl ?_
    exact At.ret Tryd.func16 rfl rfl (⟨Sl.nil, by rw [hr]; rfl, by rw [hr]; rfl, rfl⟩)
  · intro hc1
    have hc1 : (Lib.cut t [63]).1 = [47, 100, 110, 115, 45, 113, 117, 101, 114, 121] := of_decide_eq_true (bnot_false hc1)
    have hq : (Lib.cut t [63]).1 = DNSQ := hc1
    have hcl := cutW_le [63] t
    refine At.skip ?_
    refine At.seq ?_
    refine At.seq ?_
    refine At.region ?_
    refine AtL.fieldAddrB tf_fo24_0 (.inl rfl) rfl rfl rfl ?_
    refine AtL.load tf_flat9 (.inl rfl) rfl rfl (Cell.own 0 0 rfl rfl rfl) ?_
    refine AtL.nes (a := m) (b := [71, 69, 84]) (.inl rfl) rfl rfl rfl ?_
    refine AtL.move (.inl rfl) rfl rfl ?_
    refine AtL.join 4 (E' := [(30, .bool (decide ((¬ (m = [71, 69, 84])) ∧ (¬ (m = [80, 79, 83, 84]))))), (1, .slice Ab body.length Cb), (2, .pointer (some ⟨b1, 0, none⟩)), (7, str ((Lib.cut t [63]).2.1))]) (H' := [(b1, .cells #[str m, str t, .int .i64 minor, .slice A fs.length C] 24 (0, 0))] :: H) (fun J => ?_) ?_
    · refine AtL.split (t := 26) rfl ?_ ?_
      · intro hs26
        have hs26 : ¬ (m = [71, 69, 84]) := of_decide_eq_false (bnot_true hs26)
        refine AtL.fieldAddrB tf_fo24_0 (.inr ⟨_, _, _, rfl, rfl, rfl, rfl⟩) rfl rfl rfl ?_
        refine AtL.load tf_flat9 (.inr ⟨_, _, _, rfl, rfl, rfl, rfl⟩) rfl rfl (Cell.own 0 0 rfl rfl rfl) ?_
        refine AtL.nes (a := m) (b := [80, 79, 83, 84]) (.inr ⟨_, _, _, rfl, rfl, rfl, rfl⟩) rfl rfl rfl ?_
        refine AtL.pickT (.inl rfl) rfl rfl rfl ?_
        exact J _ (by exact ⟨(boolIs (by clear J; first | (simp [hs26]; done) | (simp_all; done) | grind)), rfl, rfl, rfl, trivial⟩)
      · intro hs26
        have hs26 : m = [71, 69, 84] := of_decide_eq_true (bnot_false hs26)
        refine AtL.skipped rfl rfl rfl rfl rfl rfl ?_
        refine AtL.skipped rfl rfl rfl rfl rfl rfl ?_
        refine AtL.skipped rfl rfl rfl rfl rfl rfl ?_
        refine AtL.pickF (.inl rfl) rfl rfl rfl ?_
        exact J _ (by exact ⟨(boolIs (by clear J; first | (simp [hs26]; done) | (simp_all; done) | grind)), rfl, rfl, rfl, trivial⟩)
    · skip
      refine AtL.done ?_
      refine At.cond rfl ?_ ?_
      · intro hc2
        have hc2 : (¬ (m = [71, 69, 84])) ∧ (¬ (m = [80, 79, 83, 84])) := of_decide_eq_true hc2
        refine At.seq ?_
        refine At.region ?_
        refine AtL.assign (.inl rfl) rfl rfl ?_
        refine AtL.assign (.inl rfl) rfl rfl ?_
        refine AtL.done ?_
        have hr : askF m t fs body = ([], 405) := ask_405 hq hc2.1 hc2.2
        refine At.nil ?_
        refine At.pick (H' := [] :: H) [0] 2 rfl rfl ?_
        exact At.ret Tryd.func16 rfl rfl (⟨Sl.nil, by rw [hr]; rfl, by rw [hr]; rfl, rfl⟩)
      · intro hc2
        have hc2 : ¬ ((¬ (m = [71, 69, 84])) ∧ (¬ (m = [80, 79, 83, 84]))) := of_decide_eq_false hc2
        refine At.skip ?_
        refine At.seq ?_
        refine At.region ?_
        refine AtL.buildSlice (cs := []) Tryd.underlying25 tf_zero5 tf_sz5 rfl rfl (.inl rfl) rfl rfl rfl ?_
        intro b2
        refine AtL.own1 tyB (l := ([] : List UInt8)) rfl rfl (by first | decide | simp) ?_
        intro s3 o4
        refine AtL.move (.inl rfl) rfl rfl ?_
        refine AtL.append (l := []) (news := body) 0 tf_el25 rfl o4 (Rd.skip 2 hbody) (by first | omega | (simp only [List.length_append, List.length_cons, List.length_nil]; omega) | (simp; done) | (simp; omega)) (.inl rfl) rfl rfl rfl ?_
        intro A5 C6 s7 o8
        refine AtL.assign (.inl rfl) rfl rfl ?_
        refine AtL.done ?_
        refine At.seq ?_
        refine At.seq ?_
        refine At.region ?_
        refine AtL.fieldAddrB tf_fo24_0 (.inl rfl) rfl rfl rfl ?_
        refine AtL.load tf_flat9 (.inl rfl) rfl rfl (Cell.own 1 0 rfl rfl rfl) ?_
        refine AtL.eqs (a := m) (b := [71, 69, 84]) (.inl rfl) rfl rfl rfl ?_
        refine AtL.done ?_
        refine At.cond rfl ?_ ?_
        · intro hc3
          have hc3 : m = [71, 69, 84] := of_decide_eq_true hc3
          refine At.seq ?_
          refine At.region ?_
          refine AtL.move (.inl rfl) rfl rfl ?_
          refine AtL.call tf_body52 (.inl rfl) rfl rfl (rpart_ok (t := (Lib.cut t [63]).2.1) (by omega)) ?_
          rintro _ _ ⟨rfl, rfl⟩
          refine AtL.move (.inl rfl) rfl rfl ?_
          refine AtL.extract (.inl rfl) rfl rfl rfl ?_
          refine AtL.extract (.inl rfl) rfl rfl rfl ?_
          refine AtL.assign (.inl rfl) rfl rfl ?_
          refine AtL.assign (.inl rfl) rfl rfl ?_
          refine AtL.done ?_
          refine At.seq ?_
          refine At.seq ?_
          refine At.region ?_
          refine AtL.move (.inl rfl) rfl rfl ?_
          refine AtL.not (.inl rfl) rfl rfl ?_
          refine AtL.done ?_
          refine At.cond rfl ?_ ?_
          · intro hc4
            have hc4 : ((partF ((Lib.cut t [63]).2.1)).isSome) = false := bnot_true hc4
            have hpn : partF (Lib.cut t [63]).2.1 = none := by cases hp : partF (Lib.cut t [63]).2.1 with | none => rfl | some s => (rw [hp] at hc4; cases hc4)
            refine At.seq ?_
            refine At.region ?_
            refine AtL.assign (.inl rfl) rfl rfl ?_
            refine AtL.assign (.inl rfl) rfl rfl ?_
            refine AtL.done ?_
            have hr : askF m t fs body = ([], 400) := (ask_get hq hc3).trans (by rw [get_none hpn]; exact then_no (by decide) _)
            refine At.nil ?_
            refine At.pick (H' := [] :: H) [0] 3 rfl rfl ?_
            exact At.ret Tryd.func16 rfl rfl (⟨Sl.nil, by rw [hr]; rfl, by rw [hr]; rfl, rfl⟩)
          · intro hc4
            have hc4 : ((partF ((Lib.cut t [63]).2.1)).isSome) = true := bnot_false hc4
            obtain ⟨s, hps⟩ : ∃ s, partF (Lib.cut t [63]).2.1 = some s := by cases hp : partF (Lib.cut t [63]).2.1 with | none => (rw [hp] at hc4; cases hc4) | some s => exact ⟨s, rfl⟩
            have hsl := part_le _ _ hps
            rw [hps, Option.getD_some]
            refine At.skip ?_
            refine At.seq ?_
            refine At.region ?_
            refine AtL.move (.inl rfl) rfl rfl ?_
            refine AtL.call tf_body53 (.inl rfl) rfl rfl (b64rdec_ok (s := s) (by omega)) ?_
            rintro _ _ ⟨⟨A9, C10, l11, s12, o13⟩, at15, hx14, rfl, rfl⟩
            obtain rfl : (decB s).getD [] = l11 := hx14.symm
            refine AtL.move (.inl rfl) rfl rfl ?_
            refine AtL.extract (.inl rfl) rfl rfl rfl ?_
            refine AtL.extract (.inl rfl) rfl rfl rfl ?_
            refine AtL.alloc tf_zero81 (cs := #[.int .i64 0, .int .i64 0]) rfl (.inl rfl) rfl ?_
            intro b16
            refine AtL.assign (.inl rfl) rfl rfl ?_
            refine AtL.store (H' := [(b16, .cells #[.int .i64 (if (decB s).isSome = true then 0 else 4), .int .i64 at15] 81 (0, 0))] :: s12 :: s7 :: [(b1, .cells #[str m, str t, .int .i64 minor, .slice A fs.length C] 24 (0, 0))] :: H) 0 0 tf_sz81 (.inl rfl) rfl rfl rfl rfl rfl rfl rfl rfl rfl ?_
            refine AtL.done ?_
            refine At.seq ?_
            refine At.seq ?_
            refine At.region ?_
            refine AtL.fieldAddrB tf_fo81_0 (.inl rfl) rfl rfl rfl ?_
            refine AtL.load tf_flat56 (.inl rfl) rfl rfl (Cell.own 0 0 rfl rfl rfl) ?_
            refine AtL.nei (.inl rfl) rfl rfl rfl ?_
            refine AtL.done ?_
            refine At.cond rfl ?_ ?_
            · intro hc5
              have hc5 : ¬ (((if (decB s).isSome = true then 0 else 4) : Int) = 0) := of_decide_eq_false (bnot_true hc5)
              have hd : decB s = none := by cases hq2 : decB s with | none => rfl | some b => (rw [hq2] at hc5; exact absurd rfl hc5)
              refine At.seq ?_
              refine At.region ?_
              refine AtL.assign (.inl rfl) rfl rfl ?_
              refine AtL.assign (.inl rfl) rfl rfl ?_
              refine AtL.done ?_
              have hr : askF m t fs body = ([], 400) := (ask_get hq hc3).trans (by rw [get_bad hps hd]; exact then_no (by decide) _)
              refine At.nil ?_
              refine At.pick (H' := [] :: H) [0] 5 rfl rfl ?_
              exact At.ret Tryd.func16 rfl rfl (⟨Sl.nil, by rw [hr]; rfl, by rw [hr]; rfl, rfl⟩)
            · intro hc5
              have hc5 : ((if (decB s).isSome = true then 0 else 4) : Int) = 0 := of_decide_eq_true (bnot_false hc5)
              obtain ⟨bb, hd⟩ : ∃ bb, decB s = some bb := by cases hq2 : decB s with | none => (rw [hq2] at hc5; exact absurd hc5 (by decide)) | some b => exact ⟨b, rfl⟩
              have hdg : (decB s).getD [] = bb := by rw [hd]; rfl
              refine At.skip ?_
              refine At.region ?_
              refine AtL.move (.inl rfl) rfl rfl ?_
              refine AtL.assign (.inl rfl) rfl rfl ?_
              refine AtL.done ?_
              refine At.seq ?_
              refine At.seq ?_
              refine At.region ?_
              refine AtL.move (.inl rfl) rfl rfl ?_
              refine AtL.lenL Tryd.underlying25 (.inl rfl) rfl rfl ?_
              refine AtL.lss (.inl rfl) rfl rfl rfl ?_
              refine AtL.done ?_
              refine At.cond rfl ?_ ?_
              · intro hc7
                have hc7 : (((decB s).getD []).length : Int) < 12 := of_decide_eq_true hc7
                refine At.seq ?_
                refine At.region ?_
                refine AtL.assign (.inl rfl) rfl rfl ?_
                refine AtL.assign (.inl rfl) rfl rfl ?_
                refine AtL.done ?_
                have hr : askF m t fs body = ([], 400) := (ask_get hq hc3).trans (by rw [get_good hps hd, ← hdg]; exact then_few (by omega))
                refine At.nil ?_
                refine At.pick (H' := [] :: H) [0] 5 rfl rfl ?_
                exact At.ret Tryd.func16 rfl rfl (⟨Sl.nil, by rw [hr]; rfl, by rw [hr]; rfl, rfl⟩)
              · intro hc7
                have hc7 : ¬ ((((decB s).getD []).length : Int) < 12) := of_decide_eq_false hc7
                refine At.skip ?_
                refine At.seq ?_
                refine At.seq ?_
                refine At.region ?_
                refine AtL.move (.inl rfl) rfl rfl ?_
                refine AtL.lenL Tryd.underlying25 (.inl rfl) rfl rfl ?_
                refine AtL.gtr (.inl rfl) rfl rfl rfl ?_
                refine AtL.done ?_
                refine At.cond rfl ?_ ?_
                · intro hc8
                  have hc8 : 65535 < (((decB s).getD []).length : Int) := of_decide_eq_true hc8
                  refine At.seq ?_
                  refine At.region ?_
                  refine AtL.assign (.inl rfl) rfl rfl ?_
                  refine AtL.assign (.inl rfl) rfl rfl ?_
                  refine AtL.done ?_
                  have hr : askF m t fs body = ([], 413) := (ask_get hq hc3).trans (by rw [get_good hps hd, ← hdg]; exact then_many (by omega) (by omega))
                  refine At.nil ?_
                  refine At.pick (H' := [] :: H) [0] 5 rfl rfl ?_
                  exact At.ret Tryd.func16 rfl rfl (⟨Sl.nil, by rw [hr]; rfl, by rw [hr]; rfl, rfl⟩)
                · intro hc8
                  have hc8 : ¬ (65535 < (((decB s).getD []).length : Int)) := of_decide_eq_false hc8
                  refine At.skip ?_
                  refine At.seq ?_
                  refine At.region ?_
                  refine AtL.move (.inl rfl) rfl rfl ?_
                  refine AtL.assign (.inl rfl) rfl rfl ?_
                  refine AtL.assign (.inl rfl) rfl rfl ?_
                  refine AtL.done ?_
                  have hr : askF m t fs body = ((decB s).getD [], 200) := (ask_get hq hc3).trans (by rw [get_good hps hd, ← hdg]; exact then_ok (by omega) (by omega))
                  refine At.pick (H' := s12 :: H) [1] 4 rfl rfl ?_
                  exact At.ret Tryd.func16 rfl rfl (⟨⟨A9, C10, ((decB s).getD []), s12, o13⟩, by rw [hr], by rw [hr]; rfl, rfl⟩)
        · intro hc3
          have hc3 : ¬ (m = [71, 69, 84]) := of_decide_eq_false hc3
          have hmp : m = POSTM := Classical.byContradiction fun h3 => hc2 ⟨hc3, h3⟩
          refine At.seq ?_
          refine At.region ?_
          refine AtL.loadN (cs := [str m, str t, .int .i64 minor, .slice A fs.length C]) tf_agg24 (.inl rfl) rfl rfl rfl (cellsOwn 1 0 0 rfl rfl rfl) ?_
          refine AtL.call tf_body54 (.inl rfl) rfl rfl (rfield_ok (m := m) (t := t) (minor := minor) (fs := fs) (Rd.skip 2 h) (nm := [99, 111, 110, 116, 101, 110, 116, 45, 116, 121, 112, 101]) (by decide) (by omega) (fun f hf => by have := hb f hf; omega)) ?_
          rintro _ _ ⟨rfl, rfl⟩
          refine AtL.move (.inl rfl) rfl rfl ?_
          refine AtL.extract (.inl rfl) rfl rfl rfl ?_
          refine AtL.extract (.inl rfl) rfl rfl rfl ?_
          refine AtL.assign (.inl rfl) rfl rfl ?_
          refine AtL.assign (.inl rfl) rfl rfl ?_
          refine AtL.done ?_
          refine At.seq ?_
          refine At.region ?_
          refine AtL.move (.inl rfl) rfl rfl ?_
          refine AtL.nei (.inl rfl) rfl rfl rfl ?_
          refine AtL.move (.inl rfl) rfl rfl ?_
          refine AtL.join 4 (E' := [(64, .bool (decide ((¬ (((fieldF fs [99, 111, 110, 116, 101, 110, 116, 45, 116, 121, 112, 101]).2 : Int) = 1)) ∨ (¬ (lowerF ((fieldF fs [99, 111, 110, 116, 101, 110, 116, 45, 116, 121, 112, 101]).1) = lowerF [97, 112, 112, 108, 105, 99, 97, 116, 105, 111, 110, 47, 100, 110, 115, 45, 109, 101, 115, 115, 97, 103, 101]))))), (8, .slice A5 body.length C6)]) (H' := s7 :: [(b1, .cells #[str m, str t, .int .i64 minor, .slice A fs.length C] 24 (0, 0))] :: H) (fun J => ?_) ?_
          · refine AtL.split (t := 60) rfl ?_ ?_
            · intro hs60
              have hs60 : ¬ (((fieldF fs [99, 111, 110, 116, 101, 110, 116, 45, 116, 121, 112, 101]).2 : Int) = 1) := of_decide_eq_false (bnot_true hs60)
              refine AtL.skipped rfl rfl rfl rfl rfl rfl ?_
              refine AtL.skipped rfl rfl rfl rfl rfl rfl ?_
              refine AtL.skipped rfl rfl rfl rfl rfl rfl ?_
              refine AtL.pickT (.inl rfl) rfl rfl rfl ?_
              exact J _ (by exact ⟨(boolIs (by clear J; first | (simp [hs60]; done) | (simp_all; done) | grind)), rfl, trivial⟩)
            · intro hs60
              have hs60 : ((fieldF fs [99, 111, 110, 116, 101, 110, 116, 45, 116, 121, 112, 101]).2 : Int) = 1 := of_decide_eq_true (bnot_false hs60)
              refine AtL.move (.inr ⟨_, _, _, rfl, rfl, rfl, rfl⟩) rfl rfl ?_
              refine AtL.call tf_body55 (.inr ⟨_, _, _, rfl, rfl, rfl, rfl⟩) rfl rfl (rsame_ok (a := (fieldF fs [99, 111, 110, 116, 101, 110, 116, 45, 116, 121, 112, 101]).1) (b := [97, 112, 112, 108, 105, 99, 97, 116, 105, 111, 110, 47, 100, 110, 115, 45, 109, 101, 115, 115, 97, 103, 101]) (by have := field_mem (fs := fs) (nm := CTYPE) (n := 4294967280) (fun f hf => (hb f hf).2); exact Nat.le_trans this (by omega)) (by decide)) ?_
              rintro _ _ ⟨rfl, rfl⟩
              refine AtL.not (.inr ⟨_, _, _, rfl, rfl, rfl, rfl⟩) rfl rfl ?_
              refine AtL.pickF (.inl rfl) rfl rfl rfl ?_
              exact J _ (by exact ⟨(boolIs (by clear J; first | (simp [hs60]; done) | (simp_all; done) | grind)), rfl, trivial⟩)
          · skip
            refine AtL.done ?_
            refine At.cond rfl ?_ ?_
            · intro hc6
              have hc6 : (¬ (((fieldF fs [99, 111, 110, 116, 101, 110, 116, 45, 116, 121, 112, 101]).2 : Int) = 1)) ∨ (¬ (lowerF ((fieldF fs [99, 111, 110, 116, 101, 110, 116, 45, 116, 121, 112, 101]).1) = lowerF [97, 112, 112, 108, 105, 99, 97, 116, 105, 111, 110, 47, 100, 110, 115, 45, 109, 101, 115, 115, 97, 103, 101])) := of_decide_eq_true hc6
              refine At.seq ?_
              refine At.region ?_
              refine AtL.assign (.inl rfl) rfl rfl ?_
              refine AtL.assign (.inl rfl) rfl rfl ?_
              refine AtL.done ?_
              have hr : askF m t fs body = ([], 415) := (ask_post hq hmp).trans (by rw [post_no (rpost_cond.1 hc6)]; exact then_no (by decide) _)
              refine At.nil ?_
              refine At.pick (H' := [] :: H) [0] 3 rfl rfl ?_
              exact At.ret Tryd.func16 rfl rfl (⟨Sl.nil, by rw [hr]; rfl, by rw [hr]; rfl, rfl⟩)
            · intro hc6
              have hc6 : ¬ ((¬ (((fieldF fs [99, 111, 110, 116, 101, 110, 116, 45, 116, 121, 112, 101]).2 : Int) = 1)) ∨ (¬ (lowerF ((fieldF fs [99, 111, 110, 116, 101, 110, 116, 45, 116, 121, 112, 101]).1) = lowerF [97, 112, 112, 108, 105, 99, 97, 116, 105, 111, 110, 47, 100, 110, 115, 45, 109, 101, 115, 115, 97, 103, 101]))) := of_decide_eq_false hc6
              refine At.skip ?_
              refine At.seq ?_
              refine At.seq ?_
              refine At.region ?_
              refine AtL.move (.inl rfl) rfl rfl ?_
              refine AtL.lenL Tryd.underlying25 (.inl rfl) rfl rfl ?_
              refine AtL.lss (.inl rfl) rfl rfl rfl ?_
              refine AtL.done ?_
              refine At.cond rfl ?_ ?_
              · intro hc7
                have hc7 : (body.length : Int) < 12 := of_decide_eq_true hc7
                refine At.seq ?_
                refine At.region ?_
                refine AtL.assign (.inl rfl) rfl rfl ?_
                refine AtL.assign (.inl rfl) rfl rfl ?_
                refine AtL.done ?_
                have hr : askF m t fs body = ([], 400) := (ask_post hq hmp).trans (by rw [post_yes (mt rpost_cond.2 hc6)]; exact then_few (by omega))
                refine At.nil ?_
                refine At.pick (H' := [] :: H) [0] 3 rfl rfl ?_
                exact At.ret Tryd.func16 rfl rfl (⟨Sl.nil, by rw [hr]; rfl, by rw [hr]; rfl, rfl⟩)
              · intro hc7
                have hc7 : ¬ ((body.length : Int) < 12) := of_decide_eq_false hc7
                refine At.skip ?_
                refine At.seq ?_
                refine At.seq ?_
                refine At.region ?_
                refine AtL.move (.inl rfl) rfl rfl ?_
                refine AtL.lenL Tryd.underlying25 (.inl rfl) rfl rfl ?_
                refine AtL.gtr (.inl rfl) rfl rfl rfl ?_
                refine AtL.done ?_
                refine At.cond rfl ?_ ?_
                · intro hc8
                  have hc8 : 65535 < (body.length : Int) := of_decide_eq_true hc8
                  refine At.seq ?_
                  refine At.region ?_
                  refine AtL.assign (.inl rfl) rfl rfl ?_
                  refine AtL.assign (.inl rfl) rfl rfl ?_
                  refine AtL.done ?_
                  have hr : askF m t fs body = ([], 413) := (ask_post hq hmp).trans (by rw [post_yes (mt rpost_cond.2 hc6)]; exact then_many (by omega) (by omega))
                  refine At.nil ?_
                  refine At.pick (H' := [] :: H) [0] 3 rfl rfl ?_
                  exact At.ret Tryd.func16 rfl rfl (⟨Sl.nil, by rw [hr]; rfl, by rw [hr]; rfl, rfl⟩)
                · intro hc8
                  have hc8 : ¬ (65535 < (body.length : Int)) := of_decide_eq_false hc8
                  refine At.skip ?_
                  refine At.seq ?_
                  refine At.region ?_
                  refine AtL.move (.inl rfl) rfl rfl ?_
                  refine AtL.assign (.inl rfl) rfl rfl ?_
                  refine AtL.assign (.inl rfl) rfl rfl ?_
                  refine AtL.done ?_
                  have hr : askF m t fs body = (body, 200) := (ask_post hq hmp).trans (by rw [post_yes (mt rpost_cond.2 hc6)]; exact then_ok (by omega) (by omega))
                  refine At.pick (H' := s7 :: H) [0] 2 rfl rfl ?_
                  exact At.ret Tryd.func16 rfl rfl (⟨⟨A5, C6, body, s7, o8⟩, by rw [hr], by rw [hr]; rfl, rfl⟩)

end Go.Proofs.YtlfkoimkojbghaaDoor
