/- HttpScript: the law holds of every input: it returns true, and each argument reads as it did. -/
import Derived.Test.YtlkdmbpbjhjkfaaGreatDoorScriptPkE
namespace Go.Proofs.YtlkdmbpbjhjkfaaGreatDoor
set_option linter.unusedVariables false
set_option linter.unusedSimpArgs false
set_option maxRecDepth 100000
def endF (b : List UInt8) : Int := if Lib.index b CR2 < 0 ∨ 4096 < Lib.index b CR2 + 4 then -1 else Lib.index b CR2 + 4
theorem occ_four {b : List UInt8} {j : Nat} (hj : j + 4 ≤ b.length) : Lib.occAt b CR2 j = decide (subl b j (j + 4) = CR2) := by
  rw [Lib.occAt, Bool.eq_iff_iff, List.isPrefixOf_iff_prefix, decide_eq_true_eq, subl_mid, List.prefix_iff_eq_take]
  exact ⟨fun h => h.symm, fun h => h.symm⟩
theorem end_yes {b : List UInt8} {i : Nat} (h4 : 4 ≤ i) (hl : i ≤ b.length) (hm : i ≤ 4096) (hno : ∀ j, 4 ≤ j → j < i → ¬ subl b (j - 4) j = CR2) (h : subl b (i - 4) i = CR2) : endF b = (i : Int) := by
  have e : Lib.index b CR2 = ((i - 4 : Nat) : Int) := by
    refine Lib.index_first (by omega) ?_ fun j hj => ?_
    · rw [occ_four (by omega), show i - 4 + 4 = i by omega]; exact decide_eq_true h
    · rw [occ_four (by omega)]
      refine decide_eq_false fun q => hno (j + 4) (by omega) (by omega) ?_
      rw [show j + 4 - 4 = j by omega]; exact q
  rw [endF, e, if_neg (by omega)]; omega
theorem end_no {b : List UInt8} {i : Nat} (h4 : 4 ≤ i) (hi : b.length < i ∨ 4096 < i) (hno : ∀ j, 4 ≤ j → j < i → j ≤ b.length → ¬ subl b (j - 4) j = CR2) : endF b = -1 := by
  rw [endF]
  rcases Lib.index_spec b CR2 with ⟨h1, _⟩ | ⟨k, h1, h2, h3, h4⟩
  · rw [if_pos (.inl (by omega))]
  · have hr := Lib.index_room b CR2 (by omega)
    have e4 : CR2.length = 4 := rfl
    rw [occ_four (by omega)] at h3
    by_cases hk : 4096 < k + 4
    · rw [if_pos (.inr (by omega))]
    · exact absurd (of_decide_eq_true h3) (by have := hno (k + 4) (by omega) (by omega) (by omega); rwa [show k + 4 - 4 = k by omega] at this)
structure OneP (b : List UInt8) (i : It) (n : Nat) (o : Bool) : Prop where
  no : o = false → runF b = ([], b, false)
  le : n ≤ b.length
  last : o = true → (¬ i.st = 200 ∨ i.keep = false) → runF b = ([i.pl], [], true)
  more : o = true → i.st = 200 → i.keep = true → 0 < n ∧ runF b = (i.pl :: (runF (b.drop n)).1, (runF (b.drop n)).2)
theorem OneP.ends {b : List UInt8} {s : Int} (h : headF14 b = .ends s) (hs : ¬ s = 200) : OneP b (It.bad s) 0 true := ⟨fun h => (by cases h), Nat.zero_le _, fun _ _ => run_ends h, fun _ h1 _ => absurd h1 hs⟩
theorem one_431 {b : List UInt8} (he : endF b < 0) : OneP b (It.bad 431) 0 (decide (4096 < (b.length : Int))) := by
  have hc : Lib.index b CR2 < 0 ∨ 4096 < Lib.index b CR2 + 4 := by
    by_cases hc : Lib.index b CR2 < 0 ∨ 4096 < Lib.index b CR2 + 4
    · exact hc
    · rw [endF, if_neg hc] at he; omega
  refine ⟨fun h => run_wait ?_, Nat.zero_le _, fun h _ => run_ends ?_, fun _ h1 _ => absurd h1 (by decide)⟩
  · rw [headF14, if_pos hc, if_neg (by have := of_decide_eq_false h; omega)]
  · show headF14 b = .ends 431
    rw [headF14, if_pos hc, if_pos (by have := of_decide_eq_true h; omega)]
theorem end_head {b : List UInt8} {n : Nat} (h : endF b = (n : Int)) : headF14 b = askR b n ∧ n ≤ b.length ∧ 4 ≤ n ∧ n ≤ 4096 := by
  by_cases hc : Lib.index b CR2 < 0 ∨ 4096 < Lib.index b CR2 + 4
  · rw [endF, if_pos hc] at h; omega
  · rw [endF, if_neg hc] at h
    have hr := Lib.index_room b CR2 (by omega)
    have e4 : CR2.length = 4 := rfl
    refine ⟨?_, by omega, by omega, by omega⟩
    rw [headF14, if_neg hc, show (Lib.index b CR2).toNat + 4 = n by omega]
theorem end_ge {b : List UInt8} (h : ¬ endF b < 0) : ∃ n : Nat, endF b = (n : Int) := ⟨(endF b).toNat, by omega⟩
set_option maxHeartbeats 400000 in
theorem rend_ok {w0 : World} {base : Nat} {H : List Seg} {A : Option Addr} {C : Nat} {b : List UInt8} (h : Rd tyB w0 base H A C b) :
    SCalls Tryz.prog 80 [.slice A b.length C] w0 base (H) (fun v H' => v = int (endF b) ∧ H' = H) := by
  have hle0 := h.le
  have hcap0 := h.cap
  refine SCalls.of_walk (n := 22) Tryz.func80 rfl rfl rfl fun cs => ?_
  refine At.seq ?_
  refine At.region ?_
  refine AtL.assign (.inl rfl) rfl rfl ?_
  refine AtL.done ?_
  refine At.seq ?_
  refine At.seq ?_
  refine At.region ?_
  refine AtL.assign (.inl rfl) rfl rfl ?_
  refine AtL.done ?_
  refine At.block ?_
  refine At.loop (fun (i : Nat) => [(0, .slice A b.length C), (3, .int .i64 (i : Int))]) (fun (i : Nat) => H) (fun (i : Nat) => 4 ≤ i ∧ i ≤ 4097 ∧ ∀ j, 4 ≤ j → j < i → j ≤ b.length → ¬ subl b (j - 4) j = CR2) (fun (i : Nat) => 5000 - i) 4 (⟨Nat.le_refl _, by omega, fun j h1 h2 => absurd h2 (by omega)⟩) ⟨rfl, rfl, trivial⟩ rfl ?_
  rintro i ⟨hi4, him, hno⟩ ihL1
  refine At.seq ?_
  refine At.seq ?_
  refine At.region ?_
  refine AtL.move (.inl rfl) rfl rfl ?_
  refine AtL.move (.inl rfl) rfl rfl ?_
  refine AtL.lenL Tryz.underlying22 (.inl rfl) rfl rfl ?_
  refine AtL.leq (.inl rfl) rfl rfl rfl ?_
  refine AtL.move (.inl rfl) rfl rfl ?_
  refine AtL.join 3 (E' := [(11, .bool (decide (((i : Int) ≤ (b.length : Int)) ∧ ((i : Int) ≤ 4096)))), (0, .slice A b.length C), (3, .int .i64 (i : Int))]) (H' := H) (fun J => ?_) ?_
  · refine AtL.split (t := 8) rfl ?_ ?_
    · intro hs8
      have hs8 : (i : Int) ≤ (b.length : Int) := of_decide_eq_true hs8
      refine AtL.move (.inr ⟨_, _, _, rfl, rfl, rfl, rfl⟩) rfl rfl ?_
      refine AtL.leq (.inr ⟨_, _, _, rfl, rfl, rfl, rfl⟩) rfl rfl rfl ?_
      refine AtL.pickT (.inl rfl) rfl rfl rfl ?_
      exact J _ (by exact ⟨(boolIs (by clear J; first | (simp [hs8]; done) | (simp_all; done) | grind)), rfl, rfl, trivial⟩)
    · intro hs8
      have hs8 : ¬ ((i : Int) ≤ (b.length : Int)) := of_decide_eq_false hs8
      refine AtL.skipped rfl rfl rfl rfl rfl rfl ?_
      refine AtL.skipped rfl rfl rfl rfl rfl rfl ?_
      refine AtL.pickF (.inl rfl) rfl rfl rfl ?_
      exact J _ (by exact ⟨(boolIs (by clear J; first | (simp [hs8]; done) | (simp_all; done) | grind)), rfl, rfl, trivial⟩)
  · skip
    refine AtL.done ?_
    refine At.cond rfl ?_ ?_
    · intro hc1
      have hc1 : ((i : Int) ≤ (b.length : Int)) ∧ ((i : Int) ≤ 4096) := of_decide_eq_true hc1
      refine At.skip ?_
      refine At.seq ?_
      refine At.block ?_
      refine At.seq ?_
      refine At.region ?_
      refine AtL.move (.inl rfl) rfl rfl ?_
      refine AtL.move (.inl rfl) rfl rfl ?_
      refine AtL.sub (z := ((i - 4 : Nat) : Int)) (.inl rfl) rfl rfl rfl (by rw [show (i : Int) - 4 = ((i - 4 : Nat) : Int) by omega]; exact w64 (by omega) (by omega)) ?_
      refine AtL.move (.inl rfl) rfl rfl ?_
      have hleo3 := Rd.le h
      refine AtL.sliceR 0 (i - 4 : Nat) i C h (evBound_some rfl rfl) (evBound_some rfl rfl) rfl (by intro h; cases h) (by omega) (by omega) (by omega) (by omega) Tryz.underlying22 tf_sz5 (.inl rfl) rfl rfl ?_
      clear hleo3
      intro A1 C2 (o3 : Rd tyB w0 base H A1 C2 (subl b (i - 4 : Nat) i))
      have hlo3 : (subl b (i - 4 : Nat) i).length = i - (i - 4 : Nat) := subl_len (by omega)
      refine AtL.strOf o3 Tryz.underlying22 Tryz.underlying5 Tryz.underlying9 (.inl rfl) rfl rfl ?_
      refine AtL.eqs (a := subl b (i - 4 : Nat) i) (b := [13, 10, 13, 10]) (.inl rfl) rfl rfl rfl ?_
      refine AtL.done ?_
      refine At.cond rfl ?_ ?_
      · intro hc2
        have hc2 : subl b (i - 4 : Nat) i = [13, 10, 13, 10] := of_decide_eq_true hc2
        refine At.seq ?_
        refine At.region ?_
        refine AtL.move (.inl rfl) rfl rfl ?_
        refine AtL.assign (.inl rfl) rfl rfl ?_
        refine AtL.done ?_
        exact At.ret Tryz.func80 rfl rfl (⟨by rw [end_yes hi4 (by omega) (by omega) (fun j h1 h2 => hno j h1 h2 (by omega)) hc2]; rfl, rfl⟩)
      · intro hc2
        have hc2 : ¬ (subl b (i - 4 : Nat) i = [13, 10, 13, 10]) := of_decide_eq_false hc2
        refine At.skip ?_
        refine At.inBlock ?_
        refine At.region ?_
        refine AtL.move (.inl rfl) rfl rfl ?_
        refine AtL.add (z := (i : Int) + 1) (.inl rfl) rfl rfl rfl (w64 (by omega) (by omega)) ?_
        refine AtL.assign (.inl rfl) rfl rfl ?_
        refine AtL.done ?_
        refine ihL1 (i + 1) (⟨by omega, by omega, fun j h1 h2 h3 => by rcases Nat.lt_or_ge j i with h9 | h9; exact hno j h1 h9 h3; obtain rfl : j = i := (by omega); exact hc2⟩) (by omega) _ ?_
        exact ⟨rfl, (by first | rfl | exact slLen (by simp []) | exact intEq (by omega) | exact intEq (by simp []) | exact slLen (by simp []; omega)), trivial⟩
    · intro hc1
      have hc1 : ¬ (((i : Int) ≤ (b.length : Int)) ∧ ((i : Int) ≤ 4096)) := of_decide_eq_false hc1
      refine At.exit rfl ?_
      refine At.seq ?_
      refine At.region ?_
      refine AtL.assign (.inl rfl) rfl rfl ?_
      refine AtL.done ?_
      exact At.ret Tryz.func80 rfl rfl (⟨by rw [end_no hi4 (by omega) hno]; rfl, rfl⟩)
theorem one_ready {b : List UInt8} {n kn : Nat} {m t : List UInt8} {minor : Int} {f : Sl tyField 78} {z : Sl tyB 5} {hd : HeadV} {kp : Bool} (h : headF14 b = .ready hd n kn kp) (hl : ¬ b.length < n + kn) (hh : (⟨m, t, minor, f.l⟩ : HeadV) = hd) (hz : z.l = (b.drop n).take kn) : OneP b ⟨200, m, t, minor, f, z, kp⟩ (n + kn) true := by
  subst hh
  have h4 := head_long h
  refine ⟨fun h => (by cases h), by omega, fun _ hk => ?_, fun _ _ hk => ⟨by omega, ?_⟩⟩
  · have hk : kp = false := hk.elim (fun q => absurd rfl q) fun q => q
    subst hk
    rw [run_last h hl, It.pl, hz]
  · have hk : kp = true := hk
    subst hk
    rw [run_more h hl, It.pl, hz]
set_option maxHeartbeats 1000000 in
theorem rone_ok {w0 : World} {base : Nat} {H : List Seg} {A : Option Addr} {C : Nat} {b : List UInt8} (h : Rd tyB w0 base H A C b) (hbl : b.length ≤ 4294967280) (T : Tabs w0 base) :
    SCalls Tryz.prog 48 [.slice A b.length C] w0 base (H) (fun v H' => ∃ (i : It) (n : Nat) (o : Bool), OneP b i n o ∧ v = .tuple #[.agg #[int i.st, str i.m, str i.t, int i.minor, .slice i.f.A i.f.l.length i.f.C, .slice i.z.A i.z.l.length i.z.C, .bool i.keep], int (n : Int), .bool o] ∧ H' = i.f.s :: i.z.s :: H) := by
  have hle0 := h.le
  have hcap0 := h.cap
  refine SCalls.of_walk (n := 82) Tryz.func48 rfl rfl rfl fun cs => ?_
  refine At.seq ?_
  refine At.region ?_
  refine AtL.alloc tf_zero49 (cs := #[.int .i64 0, str [], str [], .int .i64 0, .slice none 0 0, .slice none 0 0, .bool false]) rfl (.inl rfl) rfl ?_
  intro b1
  refine AtL.assign (.inl rfl) rfl rfl ?_
  refine AtL.assign (.inl rfl) rfl rfl ?_
  refine AtL.done ?_
  refine At.seq ?_
  refine At.region ?_
  refine AtL.move (.inl rfl) rfl rfl ?_
  refine AtL.call tf_body80 (.inl rfl) rfl rfl (rend_ok (b := b) (Rd.skip 1 h)) ?_
  rintro _ _ ⟨rfl, rfl⟩
  obtain ⟨ze, hze⟩ : ∃ ze : Int, ze = endF b := ⟨_, rfl⟩
  rw [← hze]
  refine AtL.assign (.inl rfl) rfl rfl ?_
  refine AtL.done ?_
  refine At.seq ?_
  refine At.seq ?_
  refine At.region ?_
  refine AtL.move (.inl rfl) rfl rfl ?_
  refine AtL.lss (.inl rfl) rfl rfl rfl ?_
  refine AtL.done ?_
  refine At.cond rfl ?_ ?_
  · intro hc1
    have hc1 : (ze : Int) < 0 := of_decide_eq_true hc1
    have hone := one_431 (b := b) (by rw [← hze]; exact hc1)
    refine At.seq ?_
    refine At.region ?_
    refine AtL.build (cs := [.int .i64 431, str [], str [], .int .i64 0, .slice none 0 0, .slice none 0 0, .bool false]) tf_lay49 (.inl rfl) rfl rfl rfl ?_
    refine AtL.move (.inl rfl) rfl rfl ?_
    refine AtL.lenL Tryz.underlying22 (.inl rfl) rfl rfl ?_
    refine AtL.gtr (.inl rfl) rfl rfl rfl ?_
    refine AtL.store (H' := [(b1, .cells #[.int .i64 431, str [], str [], .int .i64 0, .slice none 0 0, .slice none 0 0, .bool false] 49 (0, 0))] :: H) 0 0 tf_sz49 (.inl rfl) rfl rfl rfl rfl rfl rfl rfl rfl rfl ?_
    refine AtL.assign (.inl rfl) rfl rfl ?_
    refine AtL.assign (.inl rfl) rfl rfl ?_
    refine AtL.done ?_
    refine At.nil ?_
    refine At.nil ?_
    exact At.retMP (vs := [.agg #[.int .i64 431, str [], str [], .int .i64 0, .slice none 0 0, .slice none 0 0, .bool false], .int .i64 0, .bool (decide (4096 < (b.length : Int)))]) (H2 := [] :: [] :: H) [0, 1] 3 rfl rfl Tryz.func48 rfl ⟨⟨_, rfl, LoadsTo.agg (cs := [.int .i64 431, str [], str [], .int .i64 0, .slice none 0 0, .slice none 0 0, .bool false]) tf_agg49 rfl (cellsOwn 2 0 0 rfl rfl rfl)⟩, rfl, rfl, trivial⟩ (⟨It.bad 431, 0, _, hone, rfl, rfl⟩)
  · intro hc1
    have hc1 : ¬ ((ze : Int) < 0) := of_decide_eq_false hc1
    obtain ⟨n, hn⟩ := end_ge (b := b) (by rw [← hze]; exact hc1)
    obtain rfl : (n : Int) = ze := (hze.trans hn).symm
    obtain ⟨hask, hnb, hn4, hnm⟩ := end_head hn
    obtain ⟨Pq, hPq⟩ : ∃ Pq : HeadV × Int, Pq = parseF (b.take n) := ⟨_, rfl⟩
    have hPe : parseF (subl b 0 n) = Pq := by rw [hPq, subl_to]
    rw [askR, ← hPq] at hask
    refine At.skip ?_
    refine At.seq ?_
    refine At.region ?_
    refine AtL.move (.inl rfl) rfl rfl ?_
    refine AtL.move (.inl rfl) rfl rfl ?_
    have hleo4 := Rd.le h
    refine AtL.sliceR 1 0 n C h rfl (evBound_some rfl rfl) rfl (by intro h; cases h) (by omega) (by omega) (by omega) (by omega) Tryz.underlying22 tf_sz5 (.inl rfl) rfl rfl ?_
    clear hleo4
    intro A2 C3 (o4 : Rd tyB w0 base H A2 C3 (subl b 0 n))
    have hlo4 : (subl b 0 n).length = n - 0 := subl_len (by omega)
    refine AtL.call tf_body81 (.inl rfl) rfl rfl (rparse_ok (b := subl b 0 n) (Rd.skip 1 o4)) ?_
    rintro _ _ ⟨⟨A5, C6, l7, s8, o9⟩, rfl, hx10, rfl⟩
    rw [show parseF (subl b 0 n) = Pq from hPe] at hx10
    obtain rfl : Pq.1.fs = l7 := hx10.symm
    rw [show parseF (subl b 0 n) = Pq from hPe]
    refine AtL.move (.inl rfl) rfl rfl ?_
    refine AtL.extract (.inl rfl) rfl rfl rfl ?_
    refine AtL.extract (.inl rfl) rfl rfl rfl ?_
    refine AtL.alloc tf_zero47 (cs := #[str [], str [], .int .i64 0, .slice none 0 0]) rfl (.inl rfl) rfl ?_
    intro b11
    refine AtL.store (H' := [(b11, .cells #[str Pq.1.m, str Pq.1.t, .int .i64 Pq.1.minor, .slice A5 Pq.1.fs.length C6] 47 (0, 0))] :: s8 :: [(b1, .cells #[.int .i64 0, str [], str [], .int .i64 0, .slice none 0 0, .slice none 0 0, .bool false] 49 (0, 0))] :: H) 0 0 tf_sz47 (.inl rfl) rfl rfl rfl rfl rfl rfl rfl rfl rfl ?_
    refine AtL.assign (.inl rfl) rfl rfl ?_
    refine AtL.done ?_
    refine At.seq ?_
    refine At.seq ?_
    refine At.region ?_
    refine AtL.move (.inl rfl) rfl rfl ?_
    refine AtL.nei (.inl rfl) rfl rfl rfl ?_
    refine AtL.done ?_
    refine At.cond rfl ?_ ?_
    · intro hc2
      have hc2 : ¬ ((Pq.2 : Int) = 200) := of_decide_eq_false (bnot_true hc2)
      rw [if_pos hc2] at hask
      have hone := OneP.ends hask hc2
      refine At.seq ?_
      refine At.region ?_
      refine AtL.move (.inl rfl) rfl rfl ?_
      refine AtL.build (cs := [.int .i64 Pq.2, str [], str [], .int .i64 0, .slice none 0 0, .slice none 0 0, .bool false]) tf_lay49 (.inl rfl) rfl rfl rfl ?_
      refine AtL.store (H' := [(b11, .cells #[str Pq.1.m, str Pq.1.t, .int .i64 Pq.1.minor, .slice A5 Pq.1.fs.length C6] 47 (0, 0))] :: s8 :: [(b1, .cells #[.int .i64 Pq.2, str [], str [], .int .i64 0, .slice none 0 0, .slice none 0 0, .bool false] 49 (0, 0))] :: H) 2 0 tf_sz49 (.inl rfl) rfl rfl rfl rfl rfl rfl rfl rfl rfl ?_
      refine AtL.assign (.inl rfl) rfl rfl ?_
      refine AtL.assign (.inl rfl) rfl rfl ?_
      refine AtL.done ?_
      refine At.nil ?_
      refine At.nil ?_
      exact At.retMP (vs := [.agg #[.int .i64 Pq.2, str [], str [], .int .i64 0, .slice none 0 0, .slice none 0 0, .bool false], .int .i64 0, .bool true]) (H2 := [] :: [] :: H) [0, 1] 5 rfl rfl Tryz.func48 rfl ⟨⟨_, rfl, LoadsTo.agg (cs := [.int .i64 Pq.2, str [], str [], .int .i64 0, .slice none 0 0, .slice none 0 0, .bool false]) tf_agg49 rfl (cellsOwn 4 0 0 rfl rfl rfl)⟩, rfl, rfl, trivial⟩ (⟨It.bad Pq.2, 0, true, hone, rfl, rfl⟩)
    · intro hc2
      have hc2 : (Pq.2 : Int) = 200 := of_decide_eq_true (bnot_false hc2)
      rw [if_neg (by simpa using hc2)] at hask
      obtain ⟨hfl, hb, hb4⟩ : Pq.1.fs.length ≤ 1000 ∧ (∀ f ∈ Pq.1.fs, f.1.length ≤ 140737488355000 ∧ f.2.length ≤ 140737488355000) ∧ (∀ f ∈ Pq.1.fs, f.2.length < 4294967281) := parse_small (p := Pq) (b := b.take n) (by assumption) (by simpa using hc2) (by rw [List.length_take]; omega)
      refine At.skip ?_
      refine At.seq ?_
      refine At.region ?_
      refine AtL.loadN (cs := [str Pq.1.m, str Pq.1.t, .int .i64 Pq.1.minor, .slice A5 Pq.1.fs.length C6]) tf_agg47 (.inl rfl) rfl rfl rfl (cellsOwn 0 0 0 rfl rfl rfl) ?_
      refine AtL.call tf_body82 (.inl rfl) rfl rfl (rfield_ok (m := Pq.1.m) (t := Pq.1.t) (minor := Pq.1.minor) (fs := Pq.1.fs) (o9.rd (i := 1) rfl) (nm := [101, 120, 112, 101, 99, 116]) (by first | omega | decide) hfl hb) ?_
      rintro _ _ ⟨rfl, rfl⟩
      refine AtL.move (.inl rfl) rfl rfl ?_
      refine AtL.extract (.inl rfl) rfl rfl rfl ?_
      refine AtL.extract (.inl rfl) rfl rfl rfl ?_
      refine AtL.assign (.inl rfl) rfl rfl ?_
      refine AtL.assign (.inl rfl) rfl rfl ?_
      refine AtL.done ?_
      refine At.seq ?_
      refine At.seq ?_
      refine At.region ?_
      refine AtL.move (.inl rfl) rfl rfl ?_
      refine AtL.gtr (.inl rfl) rfl rfl rfl ?_
      refine AtL.done ?_
      refine At.cond rfl ?_ ?_
      · intro hc3
        have hc3 : 0 < ((fieldF Pq.1.fs [101, 120, 112, 101, 99, 116]).2 : Int) := of_decide_eq_true hc3
        rw [if_pos (show 0 < (fieldF Pq.1.fs EXPECT).2 from by have h9 := hc3; show 0 < (fieldF Pq.1.fs [101, 120, 112, 101, 99, 116]).2; omega)] at hask
        have hone := OneP.ends hask (by decide)
        refine At.seq ?_
        refine At.region ?_
        refine AtL.build (cs := [.int .i64 417, str [], str [], .int .i64 0, .slice none 0 0, .slice none 0 0, .bool false]) tf_lay49 (.inl rfl) rfl rfl rfl ?_
        refine AtL.store (H' := [(b11, .cells #[str Pq.1.m, str Pq.1.t, .int .i64 Pq.1.minor, .slice A5 Pq.1.fs.length C6] 47 (0, 0))] :: s8 :: [(b1, .cells #[.int .i64 417, str [], str [], .int .i64 0, .slice none 0 0, .slice none 0 0, .bool false] 49 (0, 0))] :: H) 2 0 tf_sz49 (.inl rfl) rfl rfl rfl rfl rfl rfl rfl rfl rfl ?_
        refine AtL.assign (.inl rfl) rfl rfl ?_
        refine AtL.assign (.inl rfl) rfl rfl ?_
        refine AtL.done ?_
        refine At.nil ?_
        refine At.nil ?_
        exact At.retMP (vs := [.agg #[.int .i64 417, str [], str [], .int .i64 0, .slice none 0 0, .slice none 0 0, .bool false], .int .i64 0, .bool true]) (H2 := [] :: [] :: H) [0, 1] 5 rfl rfl Tryz.func48 rfl ⟨⟨_, rfl, LoadsTo.agg (cs := [.int .i64 417, str [], str [], .int .i64 0, .slice none 0 0, .slice none 0 0, .bool false]) tf_agg49 rfl (cellsOwn 4 0 0 rfl rfl rfl)⟩, rfl, rfl, trivial⟩ (⟨It.bad 417, 0, true, hone, rfl, rfl⟩)
      · intro hc3
        have hc3 : ¬ (0 < ((fieldF Pq.1.fs [101, 120, 112, 101, 99, 116]).2 : Int)) := of_decide_eq_false hc3
        rw [if_neg (show ¬ 0 < (fieldF Pq.1.fs EXPECT).2 from by have h9 := hc3; show ¬ 0 < (fieldF Pq.1.fs [101, 120, 112, 101, 99, 116]).2; omega)] at hask
        refine At.skip ?_
        refine At.seq ?_
        refine At.region ?_
        refine AtL.loadN (cs := [str Pq.1.m, str Pq.1.t, .int .i64 Pq.1.minor, .slice A5 Pq.1.fs.length C6]) tf_agg47 (.inl rfl) rfl rfl rfl (cellsOwn 0 0 0 rfl rfl rfl) ?_
        refine AtL.call tf_body83 (.inl rfl) rfl rfl (rlength_ok (m := Pq.1.m) (t := Pq.1.t) (minor := Pq.1.minor) (fs := Pq.1.fs) (o9.rd (i := 1) rfl) hfl hb) ?_
        rintro _ _ ⟨rfl, rfl⟩
        refine AtL.move (.inl rfl) rfl rfl ?_
        refine AtL.extract (.inl rfl) rfl rfl rfl ?_
        refine AtL.extract (.inl rfl) rfl rfl rfl ?_
        refine AtL.assign (.inl rfl) rfl rfl ?_
        refine AtL.assign (.inl rfl) rfl rfl ?_
        refine AtL.done ?_
        refine At.seq ?_
        refine At.seq ?_
        refine At.region ?_
        refine AtL.move (.inl rfl) rfl rfl ?_
        refine AtL.nei (.inl rfl) rfl rfl rfl ?_
        refine AtL.done ?_
        refine At.cond rfl ?_ ?_
        · intro hc4
          have hc4 : ¬ (((lengthF Pq.1.fs).2 : Int) = 200) := of_decide_eq_false (bnot_true hc4)
          rw [if_pos (by first | assumption | omega | (simp; omega) | simpa using hc4)] at hask
          have hone := OneP.ends hask hc4
          refine At.seq ?_
          refine At.region ?_
          refine AtL.move (.inl rfl) rfl rfl ?_
          refine AtL.build (cs := [.int .i64 ((lengthF Pq.1.fs).2), str [], str [], .int .i64 0, .slice none 0 0, .slice none 0 0, .bool false]) tf_lay49 (.inl rfl) rfl rfl rfl ?_
          refine AtL.store (H' := [(b11, .cells #[str Pq.1.m, str Pq.1.t, .int .i64 Pq.1.minor, .slice A5 Pq.1.fs.length C6] 47 (0, 0))] :: s8 :: [(b1, .cells #[.int .i64 ((lengthF Pq.1.fs).2), str [], str [], .int .i64 0, .slice none 0 0, .slice none 0 0, .bool false] 49 (0, 0))] :: H) 2 0 tf_sz49 (.inl rfl) rfl rfl rfl rfl rfl rfl rfl rfl rfl ?_
          refine AtL.assign (.inl rfl) rfl rfl ?_
          refine AtL.assign (.inl rfl) rfl rfl ?_
          refine AtL.done ?_
          refine At.nil ?_
          refine At.nil ?_
          exact At.retMP (vs := [.agg #[.int .i64 ((lengthF Pq.1.fs).2), str [], str [], .int .i64 0, .slice none 0 0, .slice none 0 0, .bool false], .int .i64 0, .bool true]) (H2 := [] :: [] :: H) [0, 1] 5 rfl rfl Tryz.func48 rfl ⟨⟨_, rfl, LoadsTo.agg (cs := [.int .i64 ((lengthF Pq.1.fs).2), str [], str [], .int .i64 0, .slice none 0 0, .slice none 0 0, .bool false]) tf_agg49 rfl (cellsOwn 4 0 0 rfl rfl rfl)⟩, rfl, rfl, trivial⟩ (⟨It.bad ((lengthF Pq.1.fs).2), 0, true, hone, rfl, rfl⟩)
        · intro hc4
          have hc4 : ((lengthF Pq.1.fs).2 : Int) = 200 := of_decide_eq_true (bnot_false hc4)
          rw [if_neg (by first | assumption | omega | (simp; omega) | simpa using hc4)] at hask
          refine At.skip ?_
          refine At.seq ?_
          refine At.seq ?_
          refine At.region ?_
          refine AtL.move (.inl rfl) rfl rfl ?_
          refine AtL.lss (.inl rfl) rfl rfl rfl ?_
          refine AtL.move (.inl rfl) rfl rfl ?_
          refine AtL.join 4 (E' := [(55, .bool (decide ((((lengthF Pq.1.fs).1 : Int) < 0) ∧ (Pq.1.m = [80, 79, 83, 84])))), (0, .slice A b.length C), (2, .pointer (some ⟨b1, 0, none⟩)), (5, .int .i64 (n : Int)), (6, .pointer (some ⟨b11, 0, none⟩)), (10, .int .i64 ((lengthF Pq.1.fs).1))]) (H' := [(b11, .cells #[str Pq.1.m, str Pq.1.t, .int .i64 Pq.1.minor, .slice A5 Pq.1.fs.length C6] 47 (0, 0))] :: s8 :: [(b1, .cells #[.int .i64 0, str [], str [], .int .i64 0, .slice none 0 0, .slice none 0 0, .bool false] 49 (0, 0))] :: H) (fun J => ?_) ?_
          · refine AtL.split (t := 51) rfl ?_ ?_
            · intro hs51
              have hs51 : ((lengthF Pq.1.fs).1 : Int) < 0 := of_decide_eq_true hs51
              refine AtL.fieldAddrB tf_fo47_0 (.inr ⟨_, _, _, rfl, rfl, rfl, rfl⟩) rfl rfl rfl ?_
              refine AtL.load tf_flat9 (.inr ⟨_, _, _, rfl, rfl, rfl, rfl⟩) rfl rfl (Cell.own 0 0 rfl rfl rfl) ?_
              refine AtL.eqs (a := Pq.1.m) (b := [80, 79, 83, 84]) (.inr ⟨_, _, _, rfl, rfl, rfl, rfl⟩) rfl rfl rfl ?_
              refine AtL.pickT (.inl rfl) rfl rfl rfl ?_
              exact J _ (by exact ⟨(boolIs (by clear J; first | (simp [hs51]; done) | (simp_all; done) | grind)), rfl, rfl, rfl, rfl, rfl, trivial⟩)
            · intro hs51
              have hs51 : ¬ (((lengthF Pq.1.fs).1 : Int) < 0) := of_decide_eq_false hs51
              refine AtL.skipped rfl rfl rfl rfl rfl rfl ?_
              refine AtL.skipped rfl rfl rfl rfl rfl rfl ?_
              refine AtL.skipped rfl rfl rfl rfl rfl rfl ?_
              refine AtL.pickF (.inl rfl) rfl rfl rfl ?_
              exact J _ (by exact ⟨(boolIs (by clear J; first | (simp [hs51]; done) | (simp_all; done) | grind)), rfl, rfl, rfl, rfl, rfl, trivial⟩)
          · skip
            refine AtL.done ?_
            refine At.cond rfl ?_ ?_
            · intro hc5
              have hc5 : (((lengthF Pq.1.fs).1 : Int) < 0) ∧ (Pq.1.m = [80, 79, 83, 84]) := of_decide_eq_true hc5
              rw [if_pos (by first | assumption | omega | (simp; omega) | simpa using hc5)] at hask
              have hone := OneP.ends hask (by decide)
              refine At.seq ?_
              refine At.region ?_
              refine AtL.build (cs := [.int .i64 411, str [], str [], .int .i64 0, .slice none 0 0, .slice none 0 0, .bool false]) tf_lay49 (.inl rfl) rfl rfl rfl ?_
              refine AtL.store (H' := [(b11, .cells #[str Pq.1.m, str Pq.1.t, .int .i64 Pq.1.minor, .slice A5 Pq.1.fs.length C6] 47 (0, 0))] :: s8 :: [(b1, .cells #[.int .i64 411, str [], str [], .int .i64 0, .slice none 0 0, .slice none 0 0, .bool false] 49 (0, 0))] :: H) 2 0 tf_sz49 (.inl rfl) rfl rfl rfl rfl rfl rfl rfl rfl rfl ?_
              refine AtL.assign (.inl rfl) rfl rfl ?_
              refine AtL.assign (.inl rfl) rfl rfl ?_
              refine AtL.done ?_
              refine At.nil ?_
              refine At.nil ?_
              exact At.retMP (vs := [.agg #[.int .i64 411, str [], str [], .int .i64 0, .slice none 0 0, .slice none 0 0, .bool false], .int .i64 0, .bool true]) (H2 := [] :: [] :: H) [0, 1] 5 rfl rfl Tryz.func48 rfl ⟨⟨_, rfl, LoadsTo.agg (cs := [.int .i64 411, str [], str [], .int .i64 0, .slice none 0 0, .slice none 0 0, .bool false]) tf_agg49 rfl (cellsOwn 4 0 0 rfl rfl rfl)⟩, rfl, rfl, trivial⟩ (⟨It.bad 411, 0, true, hone, rfl, rfl⟩)
            · intro hc5
              have hc5 : ¬ ((((lengthF Pq.1.fs).1 : Int) < 0) ∧ (Pq.1.m = [80, 79, 83, 84])) := of_decide_eq_false hc5
              rw [if_neg (by first | assumption | omega | (simp; omega) | simpa using hc5)] at hask
              refine At.skip ?_
              refine At.seq ?_
              refine At.region ?_
              refine AtL.move (.inl rfl) rfl rfl ?_
              refine AtL.maxZ (z := max ((lengthF Pq.1.fs).1) 0) (.inl rfl) rfl rfl rfl (by omega) ?_
              refine AtL.assign (.inl rfl) rfl rfl ?_
              refine AtL.done ?_
              obtain ⟨kn, hkn⟩ : ∃ kn : Nat, kn = (lengthF Pq.1.fs).1.toNat := ⟨_, rfl⟩
              have hkl := len_small Pq.1.fs
              rw [← hkn] at hkl hask
              rw [show max (lengthF Pq.1.fs).1 0 = ((kn : Nat) : Int) by omega]
              refine At.seq ?_
              refine At.seq ?_
              refine At.region ?_
              refine AtL.move (.inl rfl) rfl rfl ?_
              refine AtL.lenL Tryz.underlying22 (.inl rfl) rfl rfl ?_
              refine AtL.move (.inl rfl) rfl rfl ?_
              refine AtL.sub (z := (b.length : Int) - (n : Int)) (.inl rfl) rfl rfl rfl (w64 (by omega) (by omega)) ?_
              refine AtL.move (.inl rfl) rfl rfl ?_
              refine AtL.lss (.inl rfl) rfl rfl rfl ?_
              refine AtL.done ?_
              refine At.cond rfl ?_ ?_
              · intro hc6
                have hc6 : ((b.length : Int) - (n : Int)) < (kn : Int) := of_decide_eq_true hc6
                have hone : OneP b (It.bad 0) 0 false := ⟨fun _ => run_short hask (by omega), Nat.zero_le _, fun h => (by cases h), fun h => (by cases h)⟩
                refine At.seq ?_
                refine At.region ?_
                refine AtL.build (cs := [.int .i64 0, str [], str [], .int .i64 0, .slice none 0 0, .slice none 0 0, .bool false]) tf_lay49 (.inl rfl) rfl rfl rfl ?_
                refine AtL.store (H' := [(b11, .cells #[str Pq.1.m, str Pq.1.t, .int .i64 Pq.1.minor, .slice A5 Pq.1.fs.length C6] 47 (0, 0))] :: s8 :: [(b1, .cells #[.int .i64 0, str [], str [], .int .i64 0, .slice none 0 0, .slice none 0 0, .bool false] 49 (0, 0))] :: H) 2 0 tf_sz49 (.inl rfl) rfl rfl rfl rfl rfl rfl rfl rfl rfl ?_
                refine AtL.assign (.inl rfl) rfl rfl ?_
                refine AtL.assign (.inl rfl) rfl rfl ?_
                refine AtL.done ?_
                refine At.nil ?_
                refine At.nil ?_
                exact At.retMP (vs := [.agg #[.int .i64 0, str [], str [], .int .i64 0, .slice none 0 0, .slice none 0 0, .bool false], .int .i64 0, .bool false]) (H2 := [] :: [] :: H) [0, 1] 5 rfl rfl Tryz.func48 rfl ⟨⟨_, rfl, LoadsTo.agg (cs := [.int .i64 0, str [], str [], .int .i64 0, .slice none 0 0, .slice none 0 0, .bool false]) tf_agg49 rfl (cellsOwn 4 0 0 rfl rfl rfl)⟩, rfl, rfl, trivial⟩ (⟨It.bad 0, 0, false, hone, rfl, rfl⟩)
              · intro hc6
                have hc6 : ¬ (((b.length : Int) - (n : Int)) < (kn : Int)) := of_decide_eq_false hc6
                refine At.skip ?_
                refine At.seq ?_
                refine At.region ?_
                refine AtL.buildSlice (cs := []) Tryz.underlying22 tf_zero5 tf_sz5 rfl rfl (.inl rfl) rfl rfl rfl ?_
                intro b12
                refine AtL.own1 tyB (l := ([] : List UInt8)) rfl rfl (by first | decide | simp) ?_
                intro s13 o14
                refine AtL.move (.inl rfl) rfl rfl ?_
                refine AtL.move (.inl rfl) rfl rfl ?_
                refine AtL.move (.inl rfl) rfl rfl ?_
                refine AtL.move (.inl rfl) rfl rfl ?_
                refine AtL.add (z := (n : Int) + (kn : Int)) (.inl rfl) rfl rfl rfl (w64 (by omega) (by omega)) ?_
                have hleo17 := Rd.le h
                refine AtL.sliceR 4 n (n + kn) C h (evBound_some rfl rfl) (evBound_some rfl rfl) rfl (by intro h; cases h) (by omega) (by omega) (by omega) (by omega) Tryz.underlying22 tf_sz5 (.inl rfl) rfl rfl ?_
                clear hleo17
                intro A15 C16 (o17 : Rd tyB w0 base H A15 C16 (subl b n (n + kn)))
                have hlo17 : (subl b n (n + kn)).length = (n + kn) - n := subl_len (by omega)
                refine AtL.append (l := []) (news := subl b n (n + kn)) 0 tf_el22 rfl o14 (Rd.skip 4 o17) (by first | omega | (simp only [List.length_append, List.length_cons, List.length_nil]; omega) | (simp; done) | (simp; omega)) (.inl rfl) rfl rfl rfl ?_
                intro A18 C19 s20 o21
                refine AtL.assign (.inl rfl) rfl rfl ?_
                refine AtL.done ?_
                refine At.seq ?_
                refine At.draw (es := [8]) (pv := [(0, .agg #[str Pq.1.m, str Pq.1.t, .int .i64 Pq.1.minor, .slice A5 Pq.1.fs.length C6]), (1, .slice A18 (subl b n (n + kn)).length C19), (2, .agg #[str Pq.1.m, str Pq.1.t, .int .i64 Pq.1.minor, .slice A5 Pq.1.fs.length C6]), (3, .bool (keepF Pq.1.fs Pq.1.minor)), (4, .agg #[.int .i64 200, str Pq.1.m, str Pq.1.t, .int .i64 Pq.1.minor, .slice A5 Pq.1.fs.length C6, .slice A18 (subl b n (n + kn)).length C19, .bool (keepF Pq.1.fs Pq.1.minor)]), (5, .int .i64 (n : Int)), (6, .int .i64 (kn : Int)), (7, .int .i64 ((n : Int) + (kn : Int)))]) tf_mixed (by kernel_rfl) (by kernel_rfl) (by kernel_rfl) ?_
                refine ⟨⟨.inr ⟨_, rfl, rfl, .inl ⟨rfl, Do.loadN (cs := [str Pq.1.m, str Pq.1.t, .int .i64 Pq.1.minor, .slice A5 Pq.1.fs.length C6]) tf_agg47 rfl rfl (cellsOwn 1 0 0 rfl rfl rfl)⟩⟩, .inr ⟨_, rfl, rfl, .inl ⟨rfl, Do.move rfl⟩⟩, .inr ⟨_, rfl, rfl, .inl ⟨rfl, Do.loadN (cs := [str Pq.1.m, str Pq.1.t, .int .i64 Pq.1.minor, .slice A5 Pq.1.fs.length C6]) tf_agg47 rfl rfl (cellsOwn 1 0 0 rfl rfl rfl)⟩⟩, .inr ⟨_, rfl, rfl, .inl ⟨rfl, Do.call tf_body84 rfl (rkeep_ok (m := Pq.1.m) (t := Pq.1.t) (minor := Pq.1.minor) (fs := Pq.1.fs) (o9.rd (i := 2) rfl) hfl hb hb4)⟩⟩, .inr ⟨_, rfl, rfl, .inl ⟨rfl, Do.build (cs := [.int .i64 200, str Pq.1.m, str Pq.1.t, .int .i64 Pq.1.minor, .slice A5 Pq.1.fs.length C6, .slice A18 (subl b n (n + kn)).length C19, .bool (keepF Pq.1.fs Pq.1.minor)]) tf_lay49 rfl rfl⟩⟩, .inr ⟨_, rfl, rfl, .inl ⟨rfl, Do.move rfl⟩⟩, .inr ⟨_, rfl, rfl, .inl ⟨rfl, Do.move rfl⟩⟩, .inr ⟨_, rfl, rfl, .inl ⟨rfl, Do.add (z := (n : Int) + (kn : Int)) rfl rfl (w64 (by omega) (by omega))⟩⟩, trivial⟩, rfl, rfl, by kernel_rfl, _, rfl, rfl, rfl, _, Do.store (H' := s20 :: [(b11, .cells #[str Pq.1.m, str Pq.1.t, .int .i64 Pq.1.minor, .slice A5 Pq.1.fs.length C6] 47 (0, 0))] :: s8 :: [(b1, .cells #[.int .i64 200, str Pq.1.m, str Pq.1.t, .int .i64 Pq.1.minor, .slice A5 Pq.1.fs.length C6, .slice A18 (subl b n (n + kn)).length C19, .bool (keepF Pq.1.fs Pq.1.minor)] 49 (0, 0))] :: H) 3 0 tf_sz49 rfl rfl rfl rfl rfl rfl rfl rfl rfl, ?_⟩
                rintro _ _ ⟨rfl, rfl⟩
                refine ⟨[(9, .int .i64 ((n : Int) + (kn : Int))), (10, .bool true)], rfl, ?_⟩
                refine ⟨⟨.inr ⟨_, rfl, rfl, .inl ⟨rfl, Do.assign rfl⟩⟩, .inr ⟨_, rfl, rfl, .inl ⟨rfl, Do.assign rfl⟩⟩, .inl (by kernel_rfl), .inl (by kernel_rfl), .inl (by kernel_rfl), .inl (by kernel_rfl), .inl (by kernel_rfl), .inr ⟨_, rfl, rfl, .inl ⟨rfl, Do.move rfl⟩⟩, .inr ⟨_, rfl, rfl, .inl ⟨rfl, Do.move rfl⟩⟩, .inr ⟨_, rfl, rfl, .inl ⟨rfl, Do.add (z := (n : Int) + (kn : Int)) rfl rfl (w64 (by omega) (by omega))⟩⟩, trivial⟩, by kernel_rfl, ?_⟩
                refine At.mono (E' := [(2, .pointer (some ⟨b1, 0, none⟩)), (3, .int .i64 ((n : Int) + (kn : Int))), (4, .bool true)]) ⟨rfl, rfl, rfl, trivial⟩ ?_
                exact At.retMP (vs := [.agg #[.int .i64 200, str Pq.1.m, str Pq.1.t, .int .i64 Pq.1.minor, .slice A5 Pq.1.fs.length C6, .slice A18 (subl b n (n + kn)).length C19, .bool (keepF Pq.1.fs Pq.1.minor)], .int .i64 ((n : Int) + (kn : Int)), .bool true]) (H2 := s8 :: s20 :: H) [2, 0] 4 rfl rfl Tryz.func48 rfl ⟨⟨_, rfl, LoadsTo.agg (cs := [.int .i64 200, str Pq.1.m, str Pq.1.t, .int .i64 Pq.1.minor, .slice A5 Pq.1.fs.length C6, .slice A18 (subl b n (n + kn)).length C19, .bool (keepF Pq.1.fs Pq.1.minor)]) tf_agg49 rfl (cellsOwn 3 0 0 rfl rfl rfl)⟩, rfl, rfl, trivial⟩ (⟨(⟨200, Pq.1.m, Pq.1.t, Pq.1.minor, ⟨A5, C6, Pq.1.fs, s8, o9⟩, ⟨A18, C19, subl b n (n + kn), s20, o21⟩, keepF Pq.1.fs Pq.1.minor⟩ : It), n + kn, true, one_ready hask (by omega) rfl (by dsimp only; rw [subl_mid]; first | done | simp), rfl, rfl⟩)
theorem ref_step {its : List It} {i : It} {b b' : List UInt8} {n : Nat} {Q : List ItV × List UInt8 × Bool} (hr : (its.map It.pl ++ (runF b).1, (runF b).2) = Q) (h : runF b = (i.pl :: (runF (b.drop n)).1, (runF (b.drop n)).2)) (hb : b' = b.drop n) : ((its ++ [i]).map It.pl ++ (runF b').1, (runF b').2) = Q := by
  rw [← hr, h, hb, List.map_append, List.append_assoc]; rfl
set_option maxHeartbeats 1000000 in
theorem rpush14_ok {w0 : World} {base : Nat} {H : List Seg} {r : Nat} {x : Sl tyB 5} {A : Option Addr} {C : Nat} {l : List UInt8} (h : Rd tyB w0 base H A C l) (hsz : x.l.length + l.length ≤ 999990) (T : Tabs w0 base) :
    SCalls Tryz.prog 26 [.pointer (some ⟨r, 0, none⟩), .slice A l.length C] w0 base (x.s :: [(r, .cells #[.slice x.A x.l.length x.C, .bool false] 39 (0, 0))] :: H) (fun v H' => ∃ (its : List It) (y : Sl tyItem 49) (xb : Sl tyB 5), y.l = its.map It.v ∧ its.map It.pl = (runF (x.l ++ l)).1 ∧ xb.l = (if (runF (x.l ++ l)).2.2 = true then [] else (runF (x.l ++ l)).2.1) ∧ v = .tuple #[.slice y.A y.l.length y.C, int 0] ∧ H' = itS its :: y.s :: xb.s :: [(r, .cells #[.slice xb.A xb.l.length xb.C, .bool ((runF (x.l ++ l)).2.2)] 39 (0, 0))] :: H) := by
  have hle0 := h.le
  have hcap0 := h.cap
  have hcapx0 := Own.cap_le x.own
  refine SCalls.of_walk (n := 65) Tryz.func26 rfl rfl rfl fun cs => ?_
  refine At.seq ?_
  refine At.region ?_
  refine AtL.assign (.inl rfl) rfl rfl ?_
  refine AtL.assign (.inl rfl) rfl rfl ?_
  refine AtL.done ?_
  refine At.seq ?_
  refine At.seq ?_
  refine At.region ?_
  refine AtL.move (.inl rfl) rfl rfl ?_
  refine AtL.nilCheck (.inl rfl) rfl rfl ?_
  refine AtL.fieldAddrB tf_fo39_1 (.inl rfl) rfl rfl rfl ?_
  refine AtL.load tf_flat4 (.inl rfl) rfl rfl (Cell.own 1 0 rfl rfl rfl) ?_
  refine AtL.done ?_
  refine At.condF rfl ?_
  refine At.skip ?_
  refine At.seq ?_
  refine At.region ?_
  refine AtL.move (.inl rfl) rfl rfl ?_
  refine AtL.buildSlice (cs := []) Tryz.underlying22 tf_zero5 tf_sz5 rfl rfl (.inl rfl) rfl rfl rfl ?_
  intro b1
  refine AtL.own1 tyB (l := ([] : List UInt8)) rfl rfl (by first | decide | simp) ?_
  intro s2 o3
  refine AtL.move (.inl rfl) rfl rfl ?_
  refine AtL.nilCheck (.inl rfl) rfl rfl ?_
  refine AtL.fieldAddrB tf_fo39_0 (.inl rfl) rfl rfl rfl ?_
  refine AtL.load tf_flat22 (.inl rfl) rfl rfl (Cell.own 2 0 rfl rfl rfl) ?_
  refine AtL.append (l := []) (news := x.l) 0 tf_el22 rfl o3 (x.own.rd (i := 1) rfl) (by first | omega | (simp only [List.length_append, List.length_cons, List.length_nil]; omega) | (simp; done) | (simp; omega)) (.inl rfl) rfl rfl rfl ?_
  intro A4 C5 s6 o7
  refine AtL.move (.inl rfl) rfl rfl ?_
  refine AtL.append (l := x.l) (news := l) 0 tf_el22 rfl o7 (Rd.skip 3 h) (by first | omega | (simp only [List.length_append, List.length_cons, List.length_nil]; omega) | (simp; done) | (simp; omega)) (.inl rfl) rfl rfl rfl ?_
  intro A8 C9 s10 o11
  refine AtL.nilCheck (.inl rfl) rfl rfl ?_
  refine AtL.fieldAddrB tf_fo39_0 (.inl rfl) rfl rfl rfl ?_
  refine AtL.store (H' := s10 :: x.s :: [(r, .cells #[.slice A8 (x.l ++ l).length C9, .bool false] 39 (0, 0))] :: H) 2 0 tf_sz22 (.inl rfl) rfl rfl rfl rfl rfl rfl rfl rfl rfl ?_
  refine AtL.done ?_
  refine At.seq ?_
  refine At.region ?_
  refine AtL.assign (.inl rfl) rfl rfl ?_
  refine AtL.done ?_
  refine At.block ?_
  refine At.nil ?_
  refine At.nil ?_
  refine At.pick (H' := [] :: [] :: s10 :: [(r, .cells #[.slice A8 (x.l ++ l).length C9, .bool false] 39 (0, 0))] :: x.s :: H) [0, 1, 2, 4, 3] 5 rfl rfl ?_
  refine At.pick (H' := [] :: [] :: s10 :: [(r, .cells #[.slice A8 (x.l ++ l).length C9, .bool false] 39 (0, 0))] :: H) [0, 1, 2, 3] 5 rfl rfl ?_
  refine At.loop3 (fun (y : Sl tyItem 49) (its : List It) (xb : Sl tyB 5) => [(0, .pointer (some ⟨r, 0, none⟩)), (6, .slice y.A y.l.length y.C)]) (fun (y : Sl tyItem 49) (its : List It) (xb : Sl tyB 5) => itS its :: y.s :: xb.s :: [(r, .cells #[.slice xb.A xb.l.length xb.C, .bool false] 39 (0, 0))] :: H) (fun (y : Sl tyItem 49) (its : List It) (xb : Sl tyB 5) => y.l = its.map It.v ∧ (its.map It.pl ++ (runF xb.l).1, (runF xb.l).2) = runF (x.l ++ l) ∧ its.length + xb.l.length ≤ x.l.length + l.length) (fun (y : Sl tyItem 49) (its : List It) (xb : Sl tyB 5) => xb.l.length) Sl.nil [] (⟨A8, C9, x.l ++ l, s10, o11⟩) (⟨rfl, by dsimp only; simp, by dsimp only; simp⟩) ⟨rfl, rfl, trivial⟩ rfl ?_
  rintro y its xb ⟨hy, hr, hn⟩ ihL1
  have hyl : y.l.length = its.length := by rw [hy, List.length_map]
  have hcapy := Own.cap_le y.own
  have hcapx := Own.cap_le xb.own
  refine At.block ?_
  refine At.seq ?_
  refine At.region ?_
  refine AtL.move (.inl rfl) rfl rfl ?_
  refine AtL.nilCheck (.inl rfl) rfl rfl ?_
  refine AtL.fieldAddrB tf_fo39_0 (.inl rfl) rfl rfl rfl ?_
  refine AtL.load tf_flat22 (.inl rfl) rfl rfl (Cell.own 3 0 rfl rfl rfl) ?_
  refine AtL.call tf_body48 (.inl rfl) rfl rfl (rone_ok (b := xb.l) (xb.own.rd (i := 2) rfl) (by omega) T) ?_
  rintro _ _ ⟨qi, qn, qo, hone, rfl, rfl⟩
  have hqle := hone.le
  refine AtL.move (.inl rfl) rfl rfl ?_
  refine AtL.extract (.inl rfl) rfl rfl rfl ?_
  refine AtL.extract (.inl rfl) rfl rfl rfl ?_
  refine AtL.extract (.inl rfl) rfl rfl rfl ?_
  refine AtL.alloc tf_zero49 (cs := #[.int .i64 0, str [], str [], .int .i64 0, .slice none 0 0, .slice none 0 0, .bool false]) rfl (.inl rfl) rfl ?_
  intro b12
  refine AtL.store (H' := [(b12, .cells #[.int .i64 qi.st, str qi.m, str qi.t, .int .i64 qi.minor, .slice qi.f.A qi.f.l.length qi.f.C, .slice qi.z.A qi.z.l.length qi.z.C, .bool qi.keep] 49 (0, 0))] :: qi.f.s :: qi.z.s :: itS its :: y.s :: xb.s :: [(r, .cells #[.slice xb.A xb.l.length xb.C, .bool false] 39 (0, 0))] :: H) 0 0 tf_sz49 (.inl rfl) rfl rfl rfl rfl rfl rfl rfl rfl rfl ?_
  refine AtL.assign (.inl rfl) rfl rfl ?_
  refine AtL.assign (.inl rfl) rfl rfl ?_
  refine AtL.done ?_
  refine At.seq ?_
  refine At.seq ?_
  refine At.region ?_
  refine AtL.move (.inl rfl) rfl rfl ?_
  refine AtL.not (.inl rfl) rfl rfl ?_
  refine AtL.done ?_
  refine At.cond rfl ?_ ?_
  · intro hc2
    have hc2 : qo = false := bnot_true hc2
    refine At.seq ?_
    refine At.region ?_
    refine AtL.move (.inl rfl) rfl rfl ?_
    refine AtL.assign (.inl rfl) rfl rfl ?_
    refine AtL.assign (.inl rfl) rfl rfl ?_
    refine AtL.done ?_
    have hq := rem_last hr (hone.no (by simpa using hc2))
    refine At.pick (H' := itS its :: y.s :: xb.s :: [(r, .cells #[.slice xb.A xb.l.length xb.C, .bool false] 39 (0, 0))] :: H) [3, 4, 5, 6] 7 rfl rfl ?_
    exact At.ret Tryz.func26 rfl rfl (⟨its, y, xb, hy, by rw [← hq.1, List.append_nil], by rw [hq.2]; rfl, rfl, by rw [hq.2]⟩)
  · intro hc2
    have hc2 : qo = true := bnot_false hc2
    refine At.skip ?_
    refine At.seq ?_
    refine At.region ?_
    refine AtL.move (.inl rfl) rfl rfl ?_
    refine AtL.loadN (cs := [.int .i64 qi.st, str qi.m, str qi.t, .int .i64 qi.minor, .slice qi.f.A qi.f.l.length qi.f.C, .slice qi.z.A qi.z.l.length qi.z.C, .bool qi.keep]) tf_agg49 (.inl rfl) rfl rfl rfl (cellsOwn 0 0 0 rfl rfl rfl) ?_
    refine AtL.buildSlice (cs := [.int .i64 qi.st, str qi.m, str qi.t, .int .i64 qi.minor, .slice qi.f.A qi.f.l.length qi.f.C, .slice qi.z.A qi.z.l.length qi.z.C, .bool qi.keep]) Tryz.underlying40 tf_zero49 tf_sz49 rfl rfl (.inl rfl) rfl rfl rfl ?_
    intro b13
    refine AtL.own1 tyItem (l := ([((qi.st : Int), (qi.m : List UInt8), (qi.t : List UInt8), (qi.minor : Int), (⟨qi.f.A, qi.f.C, qi.f.l⟩ : Vs (List UInt8 × List UInt8)), (⟨qi.z.A, qi.z.C, qi.z.l⟩ : Vs UInt8), qi.keep)] : List (Int × List UInt8 × List UInt8 × Int × Vs (List UInt8 × List UInt8) × Vs UInt8 × Bool))) rfl rfl (by first | decide | simp) ?_
    intro s14 o15
    refine AtL.append (l := y.l) (news := [((qi.st : Int), (qi.m : List UInt8), (qi.t : List UInt8), (qi.minor : Int), (⟨qi.f.A, qi.f.C, qi.f.l⟩ : Vs (List UInt8 × List UInt8)), (⟨qi.z.A, qi.z.C, qi.z.l⟩ : Vs UInt8), qi.keep)]) 5 tf_el40 rfl y.own (o15.rd (i := 0) rfl) (by first | omega | (simp only [List.length_append, List.length_cons, List.length_nil]; omega) | (simp; done) | (simp; omega)) (.inl rfl) rfl rfl rfl ?_
    intro A16 C17 s18 o19
    refine AtL.assign (.inl rfl) rfl rfl ?_
    refine AtL.done ?_
    refine At.seq ?_
    refine At.region ?_
    refine AtL.move (.inl rfl) rfl rfl ?_
    refine AtL.move (.inl rfl) rfl rfl ?_
    refine AtL.nilCheck (.inl rfl) rfl rfl ?_
    refine AtL.fieldAddrB tf_fo39_0 (.inl rfl) rfl rfl rfl ?_
    refine AtL.load tf_flat22 (.inl rfl) rfl rfl (Cell.own 7 0 rfl rfl rfl) ?_
    refine AtL.move (.inl rfl) rfl rfl ?_
    have hleo22 := Own.le_cap xb.own
    refine AtL.sliceO qn xb.l.length xb.C xb.own (evBound_some rfl rfl) rfl rfl (by intro h; cases h) (by omega) (by omega) (by omega) (Nat.le_refl _) Tryz.underlying22 tf_sz5 (.inl rfl) rfl rfl ?_
    intro A20 C21 o22
    clear hleo22
    have hlo22 : (subl xb.l qn xb.l.length).length = xb.l.length - qn := subl_len (by omega)
    refine AtL.nilCheck (.inl rfl) rfl rfl ?_
    refine AtL.fieldAddrB tf_fo39_0 (.inl rfl) rfl rfl rfl ?_
    refine AtL.store (H' := s14 :: [(b12, .cells #[.int .i64 qi.st, str qi.m, str qi.t, .int .i64 qi.minor, .slice qi.f.A qi.f.l.length qi.f.C, .slice qi.z.A qi.z.l.length qi.z.C, .bool qi.keep] 49 (0, 0))] :: qi.f.s :: qi.z.s :: itS its :: s18 :: xb.s :: [(r, .cells #[.slice A20 (subl xb.l qn xb.l.length).length C21, .bool false] 39 (0, 0))] :: H) 7 0 tf_sz22 (.inl rfl) rfl rfl rfl rfl rfl rfl rfl rfl rfl ?_
    refine AtL.done ?_
    refine At.seq ?_
    refine At.region ?_
    refine AtL.fieldAddrB tf_fo49_0 (.inl rfl) rfl rfl rfl ?_
    refine AtL.load tf_flat3 (.inl rfl) rfl rfl (Cell.own 1 0 rfl rfl rfl) ?_
    refine AtL.nei (.inl rfl) rfl rfl rfl ?_
    refine AtL.move (.inl rfl) rfl rfl ?_
    refine AtL.join 4 (E' := [(57, .bool (decide ((¬ ((qi.st : Int) = 200)) ∨ (qi.keep = false)))), (0, .pointer (some ⟨r, 0, none⟩)), (6, .slice A16 (y.l ++ [((qi.st : Int), (qi.m : List UInt8), (qi.t : List UInt8), (qi.minor : Int), (⟨qi.f.A, qi.f.C, qi.f.l⟩ : Vs (List UInt8 × List UInt8)), (⟨qi.z.A, qi.z.C, qi.z.l⟩ : Vs UInt8), qi.keep)]).length C17)]) (H' := s14 :: [(b12, .cells #[.int .i64 qi.st, str qi.m, str qi.t, .int .i64 qi.minor, .slice qi.f.A qi.f.l.length qi.f.C, .slice qi.z.A qi.z.l.length qi.z.C, .bool qi.keep] 49 (0, 0))] :: qi.f.s :: qi.z.s :: itS its :: s18 :: xb.s :: [(r, .cells #[.slice A20 (subl xb.l qn xb.l.length).length C21, .bool false] 39 (0, 0))] :: H) (fun J => ?_) ?_
    · refine AtL.split (t := 53) rfl ?_ ?_
      · intro hs53
        have hs53 : ¬ ((qi.st : Int) = 200) := of_decide_eq_false (bnot_true hs53)
        refine AtL.skipped rfl rfl rfl rfl rfl rfl ?_
        refine AtL.skipped rfl rfl rfl rfl rfl rfl ?_
        refine AtL.skipped rfl rfl rfl rfl rfl rfl ?_
        refine AtL.pickT (.inl rfl) rfl rfl rfl ?_
        exact J _ (by exact ⟨(boolIs (by clear J; first | (simp [hs53]; done) | (simp_all; done) | grind)), rfl, rfl, trivial⟩)
      · intro hs53
        have hs53 : (qi.st : Int) = 200 := of_decide_eq_true (bnot_false hs53)
        refine AtL.fieldAddrB tf_fo49_3 (.inr ⟨_, _, _, rfl, rfl, rfl, rfl⟩) rfl rfl rfl ?_
        refine AtL.load tf_flat4 (.inr ⟨_, _, _, rfl, rfl, rfl, rfl⟩) rfl rfl (Cell.own 1 0 rfl rfl rfl) ?_
        refine AtL.not (.inr ⟨_, _, _, rfl, rfl, rfl, rfl⟩) rfl rfl ?_
        refine AtL.pickF (.inl rfl) rfl rfl rfl ?_
        exact J _ (by exact ⟨(boolIs (by clear J; first | (simp [hs53]; done) | (simp_all; done) | grind)), rfl, rfl, trivial⟩)
    · skip
      refine AtL.done ?_
      refine At.cond rfl ?_ ?_
      · intro hc3
        have hc3 : (¬ ((qi.st : Int) = 200)) ∨ (qi.keep = false) := of_decide_eq_true hc3
        refine At.seq ?_
        refine At.region ?_
        refine AtL.move (.inl rfl) rfl rfl ?_
        refine AtL.nilCheck (.inl rfl) rfl rfl ?_
        refine AtL.fieldAddrB tf_fo39_1 (.inl rfl) rfl rfl rfl ?_
        refine AtL.store (H' := s14 :: [(b12, .cells #[.int .i64 qi.st, str qi.m, str qi.t, .int .i64 qi.minor, .slice qi.f.A qi.f.l.length qi.f.C, .slice qi.z.A qi.z.l.length qi.z.C, .bool qi.keep] 49 (0, 0))] :: qi.f.s :: qi.z.s :: itS its :: s18 :: xb.s :: [(r, .cells #[.slice A20 (subl xb.l qn xb.l.length).length C21, .bool true] 39 (0, 0))] :: H) 7 0 tf_sz4 (.inl rfl) rfl rfl rfl rfl rfl rfl rfl rfl rfl ?_
        refine AtL.done ?_
        refine At.seq ?_
        refine At.region ?_
        refine AtL.move (.inl rfl) rfl rfl ?_
        refine AtL.nilCheck (.inl rfl) rfl rfl ?_
        refine AtL.fieldAddrB tf_fo39_0 (.inl rfl) rfl rfl rfl ?_
        refine AtL.store (H' := s14 :: [(b12, .cells #[.int .i64 qi.st, str qi.m, str qi.t, .int .i64 qi.minor, .slice qi.f.A qi.f.l.length qi.f.C, .slice qi.z.A qi.z.l.length qi.z.C, .bool qi.keep] 49 (0, 0))] :: qi.f.s :: qi.z.s :: itS its :: s18 :: xb.s :: [(r, .cells #[.slice none 0 0, .bool true] 39 (0, 0))] :: H) 7 0 tf_sz22 (.inl rfl) rfl rfl rfl rfl rfl rfl rfl rfl rfl ?_
        refine AtL.done ?_
        refine At.seq ?_
        refine At.region ?_
        refine AtL.move (.inl rfl) rfl rfl ?_
        refine AtL.assign (.inl rfl) rfl rfl ?_
        refine AtL.assign (.inl rfl) rfl rfl ?_
        refine AtL.done ?_
        have hq := rem_last hr (hone.last (by simpa using hc2) (by first | assumption | simpa using hc3))
        refine At.pick (H' := itS its :: qi.f.s :: qi.z.s :: s14 :: [(b12, .cells #[.int .i64 qi.st, str qi.m, str qi.t, .int .i64 qi.minor, .slice qi.f.A qi.f.l.length qi.f.C, .slice qi.z.A qi.z.l.length qi.z.C, .bool qi.keep] 49 (0, 0))] :: s18 :: xb.s :: [(r, .cells #[.slice none 0 0, .bool true] 39 (0, 0))] :: H) [4, 2, 3, 0, 1, 5, 6, 7] 8 rfl rfl ?_
        refine At.flat (flat_merge3 _ _ _ _) ?_
        rw [show (itS its ++ (qi.f.s ++ qi.z.s) : Seg) = itS (its ++ [qi]) from (itS_snoc its qi).symm]
        refine At.nil ?_
        refine At.pick (H' := itS (its ++ [qi]) :: s18 :: [] :: [(r, .cells #[.slice none 0 0, .bool true] 39 (0, 0))] :: H) [1, 4, 0, 6] 7 rfl rfl ?_
        exact At.ret Tryz.func26 rfl rfl (⟨its ++ [qi], ⟨A16, C17, y.l ++ [((qi.st : Int), (qi.m : List UInt8), (qi.t : List UInt8), (qi.minor : Int), (⟨qi.f.A, qi.f.C, qi.f.l⟩ : Vs (List UInt8 × List UInt8)), (⟨qi.z.A, qi.z.C, qi.z.l⟩ : Vs UInt8), qi.keep)], s18, o19⟩, Sl.nil, by dsimp only; rw [hy, List.map_append]; rfl, by rw [List.map_append]; exact hq.1, by rw [hq.2]; rfl, rfl, by rw [hq.2]; rfl⟩)
      · intro hc3
        have hc3 : ¬ ((¬ ((qi.st : Int) = 200)) ∨ (qi.keep = false)) := of_decide_eq_false hc3
        have hc3a : qi.st = 200 := by first | exact Decidable.byContradiction fun q => hc3 (.inl q) | (by_cases q : qi.st = 200; exact q; simp_all)
        have hc3b : qi.keep = true := by cases hq : qi.keep with
                  | true => rfl
                  | false => exact absurd (.inr hq) hc3
        refine At.skip ?_
        refine At.inBlock ?_
        refine At.pick (H' := itS its :: qi.f.s :: qi.z.s :: s14 :: [(b12, .cells #[.int .i64 qi.st, str qi.m, str qi.t, .int .i64 qi.minor, .slice qi.f.A qi.f.l.length qi.f.C, .slice qi.z.A qi.z.l.length qi.z.C, .bool qi.keep] 49 (0, 0))] :: s18 :: xb.s :: [(r, .cells #[.slice A20 (subl xb.l qn xb.l.length).length C21, .bool false] 39 (0, 0))] :: H) [4, 2, 3, 0, 1, 5, 6, 7] 8 rfl rfl ?_
        refine At.flat (flat_merge3 _ _ _ _) ?_
        rw [show (itS its ++ (qi.f.s ++ qi.z.s) : Seg) = itS (its ++ [qi]) from (itS_snoc its qi).symm]
        refine At.pick (H' := itS (its ++ [qi]) :: s18 :: xb.s :: [(r, .cells #[.slice A20 (subl xb.l qn xb.l.length).length C21, .bool false] 39 (0, 0))] :: H) [0, 3, 4, 5] 6 rfl rfl ?_
        refine ihL1 (⟨A16, C17, y.l ++ [((qi.st : Int), (qi.m : List UInt8), (qi.t : List UInt8), (qi.minor : Int), (⟨qi.f.A, qi.f.C, qi.f.l⟩ : Vs (List UInt8 × List UInt8)), (⟨qi.z.A, qi.z.C, qi.z.l⟩ : Vs UInt8), qi.keep)], s18, o19⟩) (its ++ [qi]) (⟨A20, C21, subl xb.l qn xb.l.length, xb.s, o22⟩) (⟨by dsimp only; rw [hy, List.map_append]; rfl, ref_step hr (hone.more (by simpa using hc2) (by simpa using hc3a) (by simpa using hc3b)).2 (by dsimp only; rw [subl_from]), by dsimp only; rw [subl_from, List.length_append, List.length_drop]; have := (hone.more (by simpa using hc2) (by simpa using hc3a) (by simpa using hc3b)).1; have := hone.le; simp only [List.length_cons, List.length_nil]; omega⟩) (by dsimp only; rw [subl_from, List.length_drop]; have := (hone.more (by simpa using hc2) (by simpa using hc3a) (by simpa using hc3b)).1; have := hone.le; omega) _ ?_
        exact ⟨rfl, (by first | rfl | exact slLen (by simp []) | exact intEq (by omega) | exact intEq (by simp []) | exact slLen (by simp []; omega)), trivial⟩
set_option maxHeartbeats 400000 in
theorem rpush14_over {w0 : World} {base : Nat} {H : List Seg} {r : Nat} {a0 : Value} {A : Option Addr} {C : Nat} {l : List UInt8} :
    SCalls Tryz.prog 26 [.pointer (some ⟨r, 0, none⟩), .slice A l.length C] w0 base ([(r, .cells #[a0, .bool true] 39 (0, 0))] :: H) (fun v H' => v = .tuple #[.slice none 0 0, int 9] ∧ H' = [(r, .cells #[a0, .bool true] 39 (0, 0))] :: H) := by
  refine SCalls.of_walk (n := 65) Tryz.func26 rfl rfl rfl fun cs => ?_
  refine At.seq ?_
  refine At.region ?_
  refine AtL.assign (.inl rfl) rfl rfl ?_
  refine AtL.assign (.inl rfl) rfl rfl ?_
  refine AtL.done ?_
  refine At.seq ?_
  refine At.seq ?_
  refine At.region ?_
  refine AtL.move (.inl rfl) rfl rfl ?_
  refine AtL.nilCheck (.inl rfl) rfl rfl ?_
  refine AtL.fieldAddrB tf_fo39_1 (.inl rfl) rfl rfl rfl ?_
  refine AtL.load tf_flat4 (.inl rfl) rfl rfl (Cell.own 0 0 rfl rfl rfl) ?_
  refine AtL.done ?_
  refine At.condT rfl ?_
  refine At.seq ?_
  refine At.region ?_
  refine AtL.assign (.inl rfl) rfl rfl ?_
  refine AtL.assign (.inl rfl) rfl rfl ?_
  refine AtL.done ?_
  exact At.ret Tryz.func26 rfl rfl (⟨rfl, rfl⟩)
set_option maxHeartbeats 400000 in
theorem long14_ok {w0 : World} {base : Nat} {H : List Seg} {A : Option Addr} {C : Nat} {l : List Bs} (h : Rd tyL w0 base H A C l) (hb : ∀ x ∈ l, x.l.length ≤ 140737488351232) :
    SCalls Tryz.prog 22 [.slice A l.length C] w0 base (H) (fun v H' => ∃ b : Bool, v = .bool b ∧ (b = false → l.length ≤ 60 ∧ (l.map (·.l)).flatten.length ≤ 9000) ∧ H' = H) := by
  have hle0 := h.le
  have hcap0 := h.cap
  refine SCalls.of_walk (n := 29) Tryz.func22 rfl rfl rfl fun cs => ?_
  refine At.seq ?_
  refine At.region ?_
  refine AtL.assign (.inl rfl) rfl rfl ?_
  refine AtL.done ?_
  refine At.seq ?_
  refine At.region ?_
  refine AtL.assign (.inl rfl) rfl rfl ?_
  refine AtL.done ?_
  refine At.seq ?_
  refine At.seq ?_
  refine At.region ?_
  refine AtL.assign (.inl rfl) rfl rfl ?_
  refine AtL.done ?_
  refine At.block ?_
  refine At.loop (fun (i : Nat) => [(0, .slice A l.length C), (3, .int .i64 ((((l.map (·.l)).take i).flatten).length : Int)), (4, .int .i64 (i : Int))]) (fun (i : Nat) => H) (fun (i : Nat) => i ≤ l.length) (fun (i : Nat) => l.length - i) 0 (Nat.zero_le _) ⟨rfl, rfl, rfl, trivial⟩ rfl ?_
  rintro i hi ihL1
  have hT := flat_take_le (l.map (·.l)) i
  refine At.seq ?_
  refine At.seq ?_
  refine At.region ?_
  refine AtL.move (.inl rfl) rfl rfl ?_
  refine AtL.move (.inl rfl) rfl rfl ?_
  refine AtL.lenL Tryz.underlying33 (.inl rfl) rfl rfl ?_
  refine AtL.lss (.inl rfl) rfl rfl rfl ?_
  refine AtL.move (.inl rfl) rfl rfl ?_
  refine AtL.join 3 (E' := [(12, .bool (decide (((i : Int) < (l.length : Int)) ∧ (((((l.map (·.l)).take i).flatten).length : Int) ≤ 9000)))), (0, .slice A l.length C), (3, .int .i64 ((((l.map (·.l)).take i).flatten).length : Int)), (4, .int .i64 (i : Int))]) (H' := H) (fun J => ?_) ?_
  · refine AtL.split (t := 9) rfl ?_ ?_
    · intro hs9
      have hs9 : (i : Int) < (l.length : Int) := of_decide_eq_true hs9
      refine AtL.move (.inr ⟨_, _, _, rfl, rfl, rfl, rfl⟩) rfl rfl ?_
      refine AtL.leq (.inr ⟨_, _, _, rfl, rfl, rfl, rfl⟩) rfl rfl rfl ?_
      refine AtL.pickT (.inl rfl) rfl rfl rfl ?_
      exact J _ (by exact ⟨(boolIs (by clear J; first | (simp [hs9]; done) | (simp_all; done) | grind)), rfl, rfl, rfl, trivial⟩)
    · intro hs9
      have hs9 : ¬ ((i : Int) < (l.length : Int)) := of_decide_eq_false hs9
      refine AtL.skipped rfl rfl rfl rfl rfl rfl ?_
      refine AtL.skipped rfl rfl rfl rfl rfl rfl ?_
      refine AtL.pickF (.inl rfl) rfl rfl rfl ?_
      exact J _ (by exact ⟨(boolIs (by clear J; first | (simp [hs9]; done) | (simp_all; done) | grind)), rfl, rfl, rfl, trivial⟩)
  · skip
    refine AtL.done ?_
    refine At.cond rfl ?_ ?_
    · intro hc1
      have hc1 : ((i : Int) < (l.length : Int)) ∧ (((((l.map (·.l)).take i).flatten).length : Int) ≤ 9000) := of_decide_eq_true hc1
      have hb1 := hb _ (getD_mem (l := l) (i := i) (d := (⟨none, 0, []⟩ : Bs)) (by omega))
      refine At.skip ?_
      refine At.seq ?_
      refine At.block ?_
      refine At.region ?_
      refine AtL.move (.inl rfl) rfl rfl ?_
      refine AtL.move (.inl rfl) rfl rfl ?_
      refine AtL.move (.inl rfl) rfl rfl ?_
      refine AtL.indexL i h Tryz.underlying33 tf_sz22 (.inl rfl) rfl rfl rfl rfl (by omega) ?_
      refine AtL.load (v := .slice ((l.getD i (⟨none, 0, []⟩ : Bs)).A) ((l.getD i (⟨none, 0, []⟩ : Bs)).l).length ((l.getD i (⟨none, 0, []⟩ : Bs)).C)) tf_flat22 (.inl rfl) rfl rfl (Rd.cell0 h (getD_some (⟨none, 0, []⟩ : Bs) (by omega)) rfl) ?_
      refine AtL.lenL Tryz.underlying22 (.inl rfl) rfl rfl ?_
      refine AtL.add (z := ((((l.map (·.l)).take i).flatten).length : Int) + (((l.getD i (⟨none, 0, []⟩ : Bs)).l).length : Int)) (.inl rfl) rfl rfl rfl (w64 (by omega) (by omega)) ?_
      refine AtL.assign (.inl rfl) rfl rfl ?_
      refine AtL.done ?_
      refine At.inBlock ?_
      refine At.region ?_
      refine AtL.move (.inl rfl) rfl rfl ?_
      refine AtL.add (z := (i : Int) + 1) (.inl rfl) rfl rfl rfl (w64 (by omega) (by omega)) ?_
      refine AtL.assign (.inl rfl) rfl rfl ?_
      refine AtL.done ?_
      refine ihL1 (i + 1) (by omega) (by omega) _ ?_
      exact ⟨rfl, (by first | rfl | exact intEq (by rw [flat_snoc14 (by omega), List.length_append]; omega)), rfl, trivial⟩
    · intro hc1
      have hc1 : ¬ (((i : Int) < (l.length : Int)) ∧ (((((l.map (·.l)).take i).flatten).length : Int) ≤ 9000)) := of_decide_eq_false hc1
      refine At.exit rfl ?_
      refine At.seq ?_
      refine At.region ?_
      refine AtL.move (.inl rfl) rfl rfl ?_
      refine AtL.lenL Tryz.underlying33 (.inl rfl) rfl rfl ?_
      refine AtL.gtr (.inl rfl) rfl rfl rfl ?_
      refine AtL.move (.inl rfl) rfl rfl ?_
      refine AtL.join 3 (E' := [(28, .bool (decide ((60 < (l.length : Int)) ∨ (9000 < ((((l.map (·.l)).take i).flatten).length : Int)))))]) (H' := H) (fun J => ?_) ?_
      · refine AtL.split (t := 25) rfl ?_ ?_
        · intro hs25
          have hs25 : 60 < (l.length : Int) := of_decide_eq_true hs25
          refine AtL.skipped rfl rfl rfl rfl rfl rfl ?_
          refine AtL.skipped rfl rfl rfl rfl rfl rfl ?_
          refine AtL.pickT (.inl rfl) rfl rfl rfl ?_
          exact J _ (by exact ⟨(boolIs (by clear J; first | (simp [hs25]; done) | (simp_all; done) | grind)), trivial⟩)
        · intro hs25
          have hs25 : ¬ (60 < (l.length : Int)) := of_decide_eq_false hs25
          refine AtL.move (.inr ⟨_, _, _, rfl, rfl, rfl, rfl⟩) rfl rfl ?_
          refine AtL.gtr (.inr ⟨_, _, _, rfl, rfl, rfl, rfl⟩) rfl rfl rfl ?_
          refine AtL.pickF (.inl rfl) rfl rfl rfl ?_
          exact J _ (by exact ⟨(boolIs (by clear J; first | (simp [hs25]; done) | (simp_all; done) | grind)), trivial⟩)
      · skip
        refine AtL.assign (.inl rfl) rfl rfl ?_
        refine AtL.done ?_
        exact At.ret Tryz.func22 rfl rfl (⟨_, rfl, fun hb => (by have h9 := of_decide_eq_false hb; rw [not_or] at h9; refine ⟨by omega, ?_⟩; have h8 : l.length ≤ i := (by omega); rw [List.take_of_length_le (by simpa using h8)] at *; omega), rfl⟩)
end Go.Proofs.YtlkdmbpbjhjkfaaGreatDoor
namespace Go.Proofs.YtlkdmbpbjhjkfaaGreatDoor
set_option linter.unusedVariables false
set_option linter.unusedSimpArgs false
set_option maxRecDepth 100000
theorem rpush14_any {w0 : World} {base : Nat} {H : List Seg} {r2 : Nat} {x : Sl tyB 5} {A : Option Addr} {C : Nat} {l kb k2 : List UInt8} {o2 : Bool} (h : Rd tyB w0 base H A C l) (hx : x.l = kb) (hk : k2 = (runF (kb ++ l)).2.1) (ho : o2 = (runF (kb ++ l)).2.2) (hsz : kb.length + l.length ≤ 999990) (T : Tabs w0 base) :
    SCalls Tryz.prog 26 [.pointer (some ⟨r2, 0, none⟩), .slice A l.length C] w0 base (x.s :: [(r2, .cells #[.slice x.A x.l.length x.C, .bool false] 39 (0, 0))] :: H) (fun v H' => ∃ (its : List It) (y : Sl tyItem 49) (xb : Sl tyB 5), y.l = its.map It.v ∧ its.map It.pl = (runF (kb ++ l)).1 ∧ xb.l = (if o2 = true then [] else k2) ∧ v = .tuple #[.slice y.A y.l.length y.C, int 0] ∧ H' = itS its :: y.s :: xb.s :: [(r2, .cells #[.slice xb.A xb.l.length xb.C, .bool o2] 39 (0, 0))] :: H) := by
  subst hx hk ho
  exact rpush14_ok h hsz T
theorem sameitems_nil {w0 : World} {base : Nat} {H : List Seg} : SCalls Tryz.prog 27 [.slice none 0 0, .slice none 0 0] w0 base H (fun v H' => v = .bool true ∧ H' = H) := by
  refine (sameitems_ok (A := none) (A2 := none) (C := 0) (C2 := 0) (l := []) (m := []) Rd.nil_ Rd.nil_ (fun x hx => by cases hx) (fun x hx => by cases hx)).mono ?_
  rintro v H' ⟨rfl, rfl⟩
  exact ⟨rfl, rfl⟩
theorem over_item {w0 : World} {base : Nat} {H : List Seg} {q : (Int × List UInt8 × List UInt8 × Int × Vs (List UInt8 × List UInt8) × Vs UInt8 × Bool)} {i : It} (h : q = i.v) : SCalls Tryz.prog 19 [.slice q.2.2.2.2.2.1.A q.2.2.2.2.2.1.l.length q.2.2.2.2.2.1.C] w0 base (i.z.s :: H) (fun v H' => ∃ s', v = .tuple #[] ∧ H' = s' :: H) := by
  subst h
  exact over_own i.z.own
theorem item_at {its : List It} {o : List (Int × List UInt8 × List UInt8 × Int × Vs (List UInt8 × List UInt8) × Vs UInt8 × Bool)} {k : Nat} (h : o = its.map It.v) (hk : k < o.length) : ∃ i : It, its.drop k = i :: its.drop (k + 1) ∧ o.getD k ((0, [], [], 0, ⟨none, 0, []⟩, ⟨none, 0, []⟩, false) : Int × List UInt8 × List UInt8 × Int × Vs (List UInt8 × List UInt8) × Vs UInt8 × Bool) = i.v := by
  subst h
  have hk : k < its.length := by simpa using hk
  exact ⟨its[k], List.drop_eq_getElem_cons hk, by simp [List.getD, hk]⟩
theorem flat_item {its : List It} {i : It} {k : Nat} (h : its.drop k = i :: its.drop (k + 1)) (J : Seg) (H : List Seg) : (J :: itS (its.drop k) :: H).flatten.Perm ((J ++ i.f.s) :: i.z.s :: itS (its.drop (k + 1)) :: H).flatten := by
  rw [h]; simp [itS]
set_option maxHeartbeats 1000000 in
theorem httpscript_ok {w0 : World} {base : Nat} {H : List Seg} {A : Option Addr} {C : Nat} {l : List Bs} (h : Rd tyL w0 base H A C l) (he : ∀ x ∈ l, Rd tyB w0 base H x.A x.C x.l) (hb : ∀ x ∈ l, x.l.length ≤ 140737488351232) (T : Tabs w0 base) :
    SCalls Tryz.prog 4 [.slice A l.length C] w0 base (H) (fun v H' => v = .bool true ∧ H' = H) := by
  have hle0 := h.le
  have hcap0 := h.cap
  refine SCalls.of_walk (n := 98) Tryz.func4 rfl rfl rfl fun cs => ?_
  refine At.seq ?_
  refine At.region ?_
  refine AtL.assign (.inl rfl) rfl rfl ?_
  refine AtL.done ?_
  refine At.seq ?_
  refine At.region ?_
  refine AtL.call tf_body21 (.inl rfl) rfl rfl rdnew2 ?_
  rintro _ _ ⟨r1, ph2, x3, g4, h5, h6, rfl, rfl⟩
  have hr7 := RdOk.new h5 h6
  refine AtL.assign (.inl rfl) rfl rfl ?_
  refine AtL.done ?_
  refine At.seq ?_
  refine At.seq ?_
  refine At.region ?_
  refine AtL.move (.inl rfl) rfl rfl ?_
  refine AtL.eqPtrNil Tryz.underlying34 (.inl rfl) rfl rfl rfl ?_
  refine AtL.done ?_
  refine At.condF rfl ?_
  refine At.skip ?_
  refine At.seq ?_
  refine At.seq ?_
  refine At.region ?_
  refine AtL.move (.inl rfl) rfl rfl ?_
  refine AtL.call tf_body22 (.inl rfl) rfl rfl (long14_ok (Rd.skip 3 h) hb) ?_
  rintro _ _ ⟨bl8, rfl, hlg9, rfl⟩
  refine AtL.done ?_
  refine At.cond rfl ?_ ?_
  · intro hc2
    have hc2 : bl8 = true := hc2
    refine At.seq ?_
    refine At.region ?_
    refine AtL.call tf_body23 (.inl rfl) rfl rfl (awake14_ok T) ?_
    rintro _ _ ⟨rfl, rfl⟩
    refine AtL.assign (.inl rfl) rfl rfl ?_
    refine AtL.done ?_
    refine At.pick (H' := H) [] 3 rfl rfl ?_
    exact At.ret Tryz.func4 rfl rfl (⟨rfl, rfl⟩)
  · intro hc2
    have hc2 : bl8 = false := hc2
    obtain ⟨hln, hlf⟩ := hlg9 (by simpa using hc2)
    refine At.skip ?_
    refine At.seq ?_
    refine At.region ?_
    refine AtL.build (cs := [.slice none 0 0, .bool false]) tf_lay39 (.inl rfl) rfl rfl rfl ?_
    refine AtL.box (cs := #[.slice none 0 0, .bool false]) rfl (.inl rfl) rfl rfl ?_
    intro b10
    refine AtL.assign (.inl rfl) rfl rfl ?_
    refine AtL.done ?_
    refine At.seq ?_
    refine At.seq ?_
    refine At.region ?_
    refine AtL.assign (.inl rfl) rfl rfl ?_
    refine AtL.done ?_
    refine At.block ?_
    refine At.nil ?_
    refine At.pick (H' := ph2.s :: x3.s :: rdC r1 ph2 x3 (.slice none 0 0) g4 :: [] :: [(b10, .cells #[.slice none 0 0, .bool false] 39 (0, 0))] :: H) [2, 3, 4, 0, 1] 5 rfl rfl ?_
    refine At.loop6 (fun (i : Nat) (ov : Bool) (ph : Rph) (x : Sl tyB 5) (g : Nat → Value) (xb : Sl tyB 5) => [(0, .slice A l.length C), (3, .pointer (some ⟨r1, 0, none⟩)), (4, .pointer (some ⟨b10, 0, none⟩)), (5, .int .i64 (i : Int))]) (fun (i : Nat) (ov : Bool) (ph : Rph) (x : Sl tyB 5) (g : Nat → Value) (xb : Sl tyB 5) => ph.s :: x.s :: rdC r1 ph x (.slice none 0 0) g :: xb.s :: [(b10, .cells #[.slice xb.A xb.l.length xb.C, .bool ov] 39 (0, 0))] :: H) (fun (i : Nat) (ov : Bool) (ph : Rph) (x : Sl tyB 5) (g : Nat → Value) (xb : Sl tyB 5) => i ≤ l.length ∧ RdOk ph x (runF ((l.map (·.l)).take i).flatten).2.1 (runF ((l.map (·.l)).take i).flatten).2.2 ∧ ov = (runF ((l.map (·.l)).take i).flatten).2.2 ∧ xb.l = (if ov = true then [] else (runF ((l.map (·.l)).take i).flatten).2.1)) (fun (i : Nat) (ov : Bool) (ph : Rph) (x : Sl tyB 5) (g : Nat → Value) (xb : Sl tyB 5) => l.length - i) 0 false ph2 x3 g4 Sl.nil (⟨Nat.zero_le _, by show RdOk _ _ (runF []).2.1 (runF []).2.2; rw [run_nil14]; exact hr7, by show false = (runF []).2.2; rw [run_nil14], by show [] = (if false = true then [] else (runF []).2.1); rw [run_nil14]; rfl⟩) ⟨rfl, rfl, rfl, rfl, trivial⟩ rfl ?_
    rintro i ov ph x g xb ⟨hi, hrd, hov, hxb⟩ ihL1
    have hT := flat_take_le (l.map (·.l)) i
    have hrl := run_len ((l.map (·.l)).take i).flatten
    obtain ⟨kb, hkb⟩ : ∃ q : List UInt8, q = (runF ((l.map (·.l)).take i).flatten).2.1 := ⟨_, rfl⟩
    rw [← hkb] at hxb
    rw [← hkb, ← hov] at hrd
    rw [← hkb] at hrl
    have hcapx := Own.cap_le xb.own
    refine At.seq ?_
    refine At.seq ?_
    refine At.region ?_
    refine AtL.move (.inl rfl) rfl rfl ?_
    refine AtL.move (.inl rfl) rfl rfl ?_
    refine AtL.lenL Tryz.underlying33 (.inl rfl) rfl rfl ?_
    refine AtL.lss (.inl rfl) rfl rfl rfl ?_
    refine AtL.done ?_
    refine At.cond rfl ?_ ?_
    · intro hc3
      have hc3 : (i : Int) < (l.length : Int) := of_decide_eq_true hc3
      refine At.skip ?_
      refine At.seq ?_
      refine At.block ?_
      refine At.seq ?_
      have hlen := flat_getD_le (l.map (·.l)) i
      have hg : (l.map (·.l)).getD i [] = (l.getD i ⟨none, 0, []⟩).l := by simp [List.getD, show i < l.length by omega]
      rw [hg] at hlen
      refine At.region ?_
      refine AtL.move (.inl rfl) rfl rfl ?_
      refine AtL.move (.inl rfl) rfl rfl ?_
      refine AtL.indexL i (Rd.skip 5 h) Tryz.underlying33 tf_sz22 (.inl rfl) rfl rfl rfl rfl (by omega) ?_
      refine AtL.load (v := .slice ((l.getD i (⟨none, 0, []⟩ : Bs)).A) ((l.getD i (⟨none, 0, []⟩ : Bs)).l).length ((l.getD i (⟨none, 0, []⟩ : Bs)).C)) tf_flat22 (.inl rfl) rfl rfl (Rd.cell0 (Rd.skip 5 h) (getD_some (⟨none, 0, []⟩ : Bs) (by omega)) rfl) ?_
      refine AtL.call tf_body24 (.inl rfl) rfl rfl (copy_ok (l := (l.getD i (⟨none, 0, []⟩ : Bs)).l) (Rd.skip 5 (he _ (getD_mem (l := l) (i := i) (d := (⟨none, 0, []⟩ : Bs)) (by omega)))) (by omega)) ?_
      rintro _ _ ⟨A11, C12, s13, o14, rfl, rfl⟩
      refine AtL.assign (.inl rfl) rfl rfl ?_
      refine AtL.done ?_
      refine At.seq ?_
      cases ov with
      | true =>
        have hxb0 : xb.l = [] := hxb
        refine At.region ?_
        refine AtL.move (.inl rfl) rfl rfl ?_
        refine AtL.move (.inl rfl) rfl rfl ?_
        refine AtL.pick (H' := ph.s :: x.s :: rdC r1 ph x (.slice none 0 0) g :: s13 :: xb.s :: [(b10, .cells #[.slice xb.A xb.l.length xb.C, .bool true] 39 (0, 0))] :: H) [1, 2, 3, 0, 4, 5] 6 rfl rfl ?_
        refine AtL.call tf_body25 (.inl rfl) rfl rfl (pushE (l := (l.getD i (⟨none, 0, []⟩ : Bs)).l) hrd) ?_
        rintro _ _ ⟨rfl, rfl⟩
        refine AtL.move (.inl rfl) rfl rfl ?_
        refine AtL.extract (.inl rfl) rfl rfl rfl ?_
        refine AtL.extract (.inl rfl) rfl rfl rfl ?_
        refine AtL.assign (.inl rfl) rfl rfl ?_
        refine AtL.assign (.inl rfl) rfl rfl ?_
        refine AtL.done ?_
        refine At.seq ?_
        refine At.region ?_
        refine AtL.move (.inl rfl) rfl rfl ?_
        refine AtL.move (.inl rfl) rfl rfl ?_
        refine AtL.move (.inl rfl) rfl rfl ?_
        refine AtL.indexL i (Rd.skip 6 h) Tryz.underlying33 tf_sz22 (.inl rfl) rfl rfl rfl rfl (by omega) ?_
        refine AtL.load (v := .slice ((l.getD i (⟨none, 0, []⟩ : Bs)).A) ((l.getD i (⟨none, 0, []⟩ : Bs)).l).length ((l.getD i (⟨none, 0, []⟩ : Bs)).C)) tf_flat22 (.inl rfl) rfl rfl (Rd.cell0 (Rd.skip 6 h) (getD_some (⟨none, 0, []⟩ : Bs) (by omega)) rfl) ?_
        refine AtL.pick (H' := [(b10, .cells #[.slice xb.A xb.l.length xb.C, .bool true] 39 (0, 0))] :: ph.s :: x.s :: rdC r1 ph x (.slice none 0 0) g :: s13 :: xb.s :: H) [5, 0, 1, 2, 3, 4] 6 rfl rfl ?_
        refine AtL.call tf_body26 (.inl rfl) rfl rfl (rpush14_over (A := (l.getD i (⟨none, 0, []⟩ : Bs)).A) (C := (l.getD i (⟨none, 0, []⟩ : Bs)).C) (l := (l.getD i (⟨none, 0, []⟩ : Bs)).l)) ?_
        rintro _ _ ⟨rfl, rfl⟩
        refine AtL.move (.inl rfl) rfl rfl ?_
        refine AtL.extract (.inl rfl) rfl rfl rfl ?_
        refine AtL.extract (.inl rfl) rfl rfl rfl ?_
        refine AtL.assign (.inl rfl) rfl rfl ?_
        refine AtL.assign (.inl rfl) rfl rfl ?_
        refine AtL.done ?_
        refine At.seq ?_
        refine At.seq ?_
        refine At.pick (H' := ph.s :: x.s :: rdC r1 ph x (.slice none 0 0) g :: [(b10, .cells #[.slice xb.A xb.l.length xb.C, .bool true] 39 (0, 0))] :: s13 :: xb.s :: H) [1, 2, 3, 0, 4, 5] 6 rfl rfl ?_
        refine At.draw (es := []) (pv := [(0, .int .i64 9), (1, .int .i64 9), (2, .bool false), (3, .bool false), (4, .slice none 0 0), (5, .slice none 0 0), (6, .bool true), (7, .bool false), (8, .bool false), (9, .bool false), (10, .slice A11 ((l.getD i (⟨none, 0, []⟩ : Bs)).l).length C12), (11, .slice A l.length C), (12, .int .i64 (i : Int)), (13, .pointer (some (eaddr A (i * tyL.sz)))), (14, .slice ((l.getD i (⟨none, 0, []⟩ : Bs)).A) ((l.getD i (⟨none, 0, []⟩ : Bs)).l).length ((l.getD i (⟨none, 0, []⟩ : Bs)).C)), (15, .bool true), (16, .bool false), (17, .bool false), (18, .bool false), (19, .pointer (some ⟨r1, 0, none⟩)), (20, .int .i64 0), (21, .pointer (some ⟨b10, 0, none⟩)), (22, .pointer (some ⟨b10, 0, none⟩)), (23, .pointer (some ⟨b10, 0, none⟩)), (24, .slice xb.A xb.l.length xb.C), (25, .int .i64 (xb.l.length : Int)), (26, .bool false), (27, .bool false), (28, .bool false), (29, .pointer (some ⟨r1, 0, none⟩)), (30, .bool true), (31, .pointer (some ⟨b10, 0, none⟩)), (32, .pointer (some ⟨b10, 0, none⟩)), (33, .pointer (some ⟨b10, 1, none⟩)), (34, .bool true), (35, .bool false), (36, .bool false)]) tf_mixed (by kernel_rfl) (by kernel_rfl) (by kernel_rfl) ?_
        refine ⟨⟨.inr ⟨_, rfl, rfl, .inl ⟨rfl, Do.move rfl⟩⟩, .inr ⟨_, rfl, rfl, .inl ⟨rfl, Do.move rfl⟩⟩, .inr ⟨_, rfl, rfl, .inl ⟨rfl, Do.asBool (Do.nei rfl rfl) (by decide)⟩⟩, .inr ⟨_, rfl, rfl, .inl ⟨rfl, Do.move rfl⟩⟩, .inr ⟨_, rfl, rfl, .inl ⟨⟨_, _, _, rfl, rfl, rfl, rfl⟩, Do.move rfl⟩⟩, .inr ⟨_, rfl, rfl, .inl ⟨⟨_, _, _, rfl, rfl, rfl, rfl⟩, Do.move rfl⟩⟩, .inr ⟨_, rfl, rfl, .inl ⟨⟨_, _, _, rfl, rfl, rfl, rfl⟩, Do.call tf_body27 rfl sameitems_nil⟩⟩, .inr ⟨_, rfl, rfl, .inl ⟨⟨_, _, _, rfl, rfl, rfl, rfl⟩, Do.not (b := true) rfl⟩⟩, .inr ⟨_, rfl, rfl, .inl ⟨rfl, Do.pickF rfl rfl⟩⟩, .inr ⟨_, rfl, rfl, .inl ⟨rfl, Do.move rfl⟩⟩, .inr ⟨_, rfl, rfl, .inl ⟨⟨_, _, _, rfl, rfl, rfl, rfl⟩, Do.move rfl⟩⟩, .inr ⟨_, rfl, rfl, .inl ⟨⟨_, _, _, rfl, rfl, rfl, rfl⟩, Do.move rfl⟩⟩, .inr ⟨_, rfl, rfl, .inl ⟨⟨_, _, _, rfl, rfl, rfl, rfl⟩, Do.move rfl⟩⟩, .inr ⟨_, rfl, rfl, .inl ⟨⟨_, _, _, rfl, rfl, rfl, rfl⟩, Do.indexL i (Rd.skip 6 h) Tryz.underlying33 tf_sz22 rfl rfl rfl (by omega)⟩⟩, .inr ⟨_, rfl, rfl, .inl ⟨⟨_, _, _, rfl, rfl, rfl, rfl⟩, Do.load (v := .slice ((l.getD i (⟨none, 0, []⟩ : Bs)).A) ((l.getD i (⟨none, 0, []⟩ : Bs)).l).length ((l.getD i (⟨none, 0, []⟩ : Bs)).C)) tf_flat22 rfl (Rd.cell0 (Rd.skip 6 h) (getD_some (⟨none, 0, []⟩ : Bs) (by omega)) rfl)⟩⟩, .inr ⟨_, rfl, rfl, .inl ⟨⟨_, _, _, rfl, rfl, rfl, rfl⟩, Do.asBool (Do.call tf_body18 rfl (same_ok (l := (l.getD i (⟨none, 0, []⟩ : Bs)).l) (l2 := (l.getD i (⟨none, 0, []⟩ : Bs)).l) (o14.rd (i := 4) rfl) (Rd.skip 6 (he _ (getD_mem (l := l) (i := i) (d := (⟨none, 0, []⟩ : Bs)) (by omega)))))) (decide_eq_true rfl)⟩⟩, .inr ⟨_, rfl, rfl, .inl ⟨⟨_, _, _, rfl, rfl, rfl, rfl⟩, Do.asBool (Do.not (b := true) rfl) rfl⟩⟩, .inr ⟨_, rfl, rfl, .inl ⟨rfl, Do.pickF rfl rfl⟩⟩, .inr ⟨_, rfl, rfl, .inl ⟨rfl, Do.move rfl⟩⟩, .inr ⟨_, rfl, rfl, .inl ⟨⟨_, _, _, rfl, rfl, rfl, rfl⟩, Do.move rfl⟩⟩, .inr ⟨_, rfl, rfl, .inl ⟨⟨_, _, _, rfl, rfl, rfl, rfl⟩, Do.call tf_body28 rfl (left2 hrd)⟩⟩, .inr ⟨_, rfl, rfl, .inl ⟨⟨_, _, _, rfl, rfl, rfl, rfl⟩, Do.move rfl⟩⟩, .inr ⟨_, rfl, rfl, .inl ⟨⟨_, _, _, rfl, rfl, rfl, rfl⟩, Do.nilCheck rfl⟩⟩, .inr ⟨_, rfl, rfl, .inl ⟨⟨_, _, _, rfl, rfl, rfl, rfl⟩, Do.fieldAddrB tf_fo39_0 rfl rfl⟩⟩, .inr ⟨_, rfl, rfl, .inl ⟨⟨_, _, _, rfl, rfl, rfl, rfl⟩, Do.load tf_flat22 rfl (Cell.own 3 0 rfl rfl rfl)⟩⟩, .inr ⟨_, rfl, rfl, .inl ⟨⟨_, _, _, rfl, rfl, rfl, rfl⟩, Do.lenL Tryz.underlying22 rfl⟩⟩, .inr ⟨_, rfl, rfl, .inl ⟨⟨_, _, _, rfl, rfl, rfl, rfl⟩, Do.asBool (Do.nei rfl rfl) (by rw [decide_eq_true (show (0 : Int) = (xb.l.length : Int) by rw [hxb0]; rfl)]; rfl)⟩⟩, .inr ⟨_, rfl, rfl, .inl ⟨rfl, Do.pickF rfl rfl⟩⟩, .inr ⟨_, rfl, rfl, .inl ⟨rfl, Do.move rfl⟩⟩, .inr ⟨_, rfl, rfl, .inl ⟨⟨_, _, _, rfl, rfl, rfl, rfl⟩, Do.move rfl⟩⟩, .inr ⟨_, rfl, rfl, .inl ⟨⟨_, _, _, rfl, rfl, rfl, rfl⟩, Do.call tf_body29 rfl (over2 hrd)⟩⟩, .inr ⟨_, rfl, rfl, .inl ⟨⟨_, _, _, rfl, rfl, rfl, rfl⟩, Do.move rfl⟩⟩, .inr ⟨_, rfl, rfl, .inl ⟨⟨_, _, _, rfl, rfl, rfl, rfl⟩, Do.nilCheck rfl⟩⟩, .inr ⟨_, rfl, rfl, .inl ⟨⟨_, _, _, rfl, rfl, rfl, rfl⟩, Do.fieldAddrB tf_fo39_1 rfl rfl⟩⟩, .inr ⟨_, rfl, rfl, .inl ⟨⟨_, _, _, rfl, rfl, rfl, rfl⟩, Do.load tf_flat4 rfl (Cell.own 3 0 rfl rfl rfl)⟩⟩, .inr ⟨_, rfl, rfl, .inl ⟨⟨_, _, _, rfl, rfl, rfl, rfl⟩, Do.asBool (Do.neb Tryz.underlying4 rfl rfl) (congrArg not (beq_self_eq_true _))⟩⟩, .inr ⟨_, rfl, rfl, .inl ⟨rfl, Do.pickF rfl rfl⟩⟩, trivial⟩, by kernel_rfl, ?_⟩
        refine At.mono (E' := [(0, .slice A l.length C), (3, .pointer (some ⟨r1, 0, none⟩)), (4, .pointer (some ⟨b10, 0, none⟩)), (5, .int .i64 (i : Int)), (6, .slice A11 ((l.getD i (⟨none, 0, []⟩ : Bs)).l).length C12), (7, .slice none 0 0), (82, .bool false)]) ⟨rfl, rfl, rfl, rfl, rfl, rfl, rfl, trivial⟩ ?_
        refine At.condF rfl ?_
        refine At.skip ?_
        refine At.seq ?_
        refine At.region ?_
        refine AtL.move (.inl rfl) rfl rfl ?_
        refine AtL.pick (H' := s13 :: ph.s :: x.s :: rdC r1 ph x (.slice none 0 0) g :: [(b10, .cells #[.slice xb.A xb.l.length xb.C, .bool true] 39 (0, 0))] :: xb.s :: H) [4, 0, 1, 2, 3, 5] 6 rfl rfl ?_
        refine AtL.call tf_body19 (.inl rfl) rfl rfl (over_own o14) ?_
        rintro _ _ ⟨s15, rfl, rfl⟩
        refine AtL.done ?_
        refine At.seq ?_
        refine At.region ?_
        refine AtL.assign (.inl rfl) rfl rfl ?_
        refine AtL.done ?_
        refine At.block ?_
        refine At.unroll ?_
        refine At.seq ?_
        refine At.seq ?_
        refine At.region ?_
        refine AtL.move (.inl rfl) rfl rfl ?_
        refine AtL.move (.inl rfl) rfl rfl ?_
        refine AtL.lenL Tryz.underlying40 (.inl rfl) rfl rfl ?_
        refine AtL.lss (.inl rfl) rfl rfl rfl ?_
        refine AtL.done ?_
        refine At.condF rfl ?_
        refine At.exit rfl ?_
        refine At.inBlock ?_
        refine At.region ?_
        refine AtL.move (.inl rfl) rfl rfl ?_
        refine AtL.add (z := (i : Int) + 1) (.inl rfl) rfl rfl rfl (w64 (by omega) (by omega)) ?_
        refine AtL.assign (.inl rfl) rfl rfl ?_
        refine AtL.done ?_
        refine At.pick (H' := ph.s :: x.s :: rdC r1 ph x (.slice none 0 0) g :: xb.s :: [(b10, .cells #[.slice xb.A xb.l.length xb.C, .bool true] 39 (0, 0))] :: H) [1, 2, 3, 5, 4] 6 rfl rfl ?_
        refine ihL1 (i + 1) true ph x g xb (⟨by omega, by rw [flat_snoc14 (by omega), run_done hov, ← hov, ← hkb]; exact hrd, by rw [flat_snoc14 (by omega), run_done hov]; exact hov, hxb⟩) (by omega) _ ?_
        exact ⟨rfl, (by first | rfl | exact slLen (by simp []) | exact intEq (by omega) | exact intEq (by simp []) | exact slLen (by simp []; omega)), rfl, (by first | rfl | exact slLen (by simp []) | exact intEq (by omega) | exact intEq (by simp []) | exact slLen (by simp []; omega)), trivial⟩
      | false =>
        have hxb0 : xb.l = kb := hxb
        refine At.region ?_
        refine AtL.move (.inl rfl) rfl rfl ?_
        refine AtL.move (.inl rfl) rfl rfl ?_
        refine AtL.pick (H' := ph.s :: x.s :: rdC r1 ph x (.slice none 0 0) g :: s13 :: xb.s :: [(b10, .cells #[.slice xb.A xb.l.length xb.C, .bool false] 39 (0, 0))] :: H) [1, 2, 3, 0, 4, 5] 6 rfl rfl ?_
        refine AtL.call tf_body25 (.inl rfl) rfl rfl (push_any (l := (l.getD i (⟨none, 0, []⟩ : Bs)).l) (o14.rd (i := 0) rfl) hrd (by omega) T) ?_
        rintro _ _ ⟨its16, o17, ph18, x19, g20, ho21, hp22, hr23, rfl, rfl⟩
        obtain ⟨kb24, hkb26⟩ : ∃ q : List UInt8, q = (runF (kb ++ (l.getD i (⟨none, 0, []⟩ : Bs)).l)).2.1 := ⟨_, rfl⟩
        obtain ⟨ob25, hob27⟩ : ∃ q : Bool, q = (runF (kb ++ (l.getD i (⟨none, 0, []⟩ : Bs)).l)).2.2 := ⟨_, rfl⟩
        rw [← hkb26, ← hob27] at hr23
        have ho21e : ∀ x ∈ o17.l, Rd tyField w0 base (itS its16 :: H) x.2.2.2.2.1.A x.2.2.2.2.1.C x.2.2.2.2.1.l ∧ Rd tyB w0 base (itS its16 :: H) x.2.2.2.2.2.1.A x.2.2.2.2.2.1.C x.2.2.2.2.2.1.l := by rw [ho21]; exact it_el its16 w0 base H
        have ho21l : o17.l.length = (runF (kb ++ (l.getD i (⟨none, 0, []⟩ : Bs)).l)).1.length := by rw [ho21, ← hp22, List.length_map, List.length_map]
        have ho21n := run_len (kb ++ (l.getD i (⟨none, 0, []⟩ : Bs)).l)
        rw [← hkb26, ← ho21l, List.length_append] at ho21n
        refine AtL.move (.inl rfl) rfl rfl ?_
        refine AtL.extract (.inl rfl) rfl rfl rfl ?_
        refine AtL.extract (.inl rfl) rfl rfl rfl ?_
        refine AtL.assign (.inl rfl) rfl rfl ?_
        refine AtL.assign (.inl rfl) rfl rfl ?_
        refine AtL.done ?_
        refine At.seq ?_
        refine At.region ?_
        refine AtL.move (.inl rfl) rfl rfl ?_
        refine AtL.move (.inl rfl) rfl rfl ?_
        refine AtL.move (.inl rfl) rfl rfl ?_
        refine AtL.indexL i (Rd.skip 8 h) Tryz.underlying33 tf_sz22 (.inl rfl) rfl rfl rfl rfl (by omega) ?_
        refine AtL.load (v := .slice ((l.getD i (⟨none, 0, []⟩ : Bs)).A) ((l.getD i (⟨none, 0, []⟩ : Bs)).l).length ((l.getD i (⟨none, 0, []⟩ : Bs)).C)) tf_flat22 (.inl rfl) rfl rfl (Rd.cell0 (Rd.skip 8 h) (getD_some (⟨none, 0, []⟩ : Bs) (by omega)) rfl) ?_
        refine AtL.pick (H' := xb.s :: [(b10, .cells #[.slice xb.A xb.l.length xb.C, .bool false] 39 (0, 0))] :: itS its16 :: o17.s :: ph18.s :: x19.s :: rdC r1 ph18 x19 (.slice none 0 0) g20 :: s13 :: H) [6, 7, 0, 1, 2, 3, 4, 5] 8 rfl rfl ?_
        refine AtL.call tf_body26 (.inl rfl) rfl rfl (rpush14_any (l := (l.getD i (⟨none, 0, []⟩ : Bs)).l) (Rd.skip 6 (he _ (getD_mem (l := l) (i := i) (d := (⟨none, 0, []⟩ : Bs)) (by omega)))) hxb0 hkb26 hob27 (by omega) T) ?_
        rintro _ _ ⟨its28, y29, xb30, hy31, hp32, hx33, rfl, rfl⟩
        have hy31e : ∀ x ∈ y29.l, Rd tyField w0 base (itS its28 :: H) x.2.2.2.2.1.A x.2.2.2.2.1.C x.2.2.2.2.1.l ∧ Rd tyB w0 base (itS its28 :: H) x.2.2.2.2.2.1.A x.2.2.2.2.2.1.C x.2.2.2.2.2.1.l := by rw [hy31]; exact it_el its28 w0 base H
        have hsame9 : o17.l.map plI = y29.l.map plI := by rw [ho21, plI_v, hp22, hy31, plI_v, hp32]
        have hleft9 : ((if ob25 then 0 else (kb24).length : Nat) : Int) = (xb30.l.length : Int) := by rw [hx33]; cases ob25 <;> rfl
        refine AtL.move (.inl rfl) rfl rfl ?_
        refine AtL.extract (.inl rfl) rfl rfl rfl ?_
        refine AtL.extract (.inl rfl) rfl rfl rfl ?_
        refine AtL.assign (.inl rfl) rfl rfl ?_
        refine AtL.assign (.inl rfl) rfl rfl ?_
        refine AtL.done ?_
        refine At.seq ?_
        refine At.seq ?_
        refine At.pick (H' := ph18.s :: x19.s :: rdC r1 ph18 x19 (.slice none 0 0) g20 :: itS its28 :: y29.s :: xb30.s :: [(b10, .cells #[.slice xb30.A xb30.l.length xb30.C, .bool ob25] 39 (0, 0))] :: itS its16 :: o17.s :: s13 :: H) [6, 7, 8, 0, 1, 2, 3, 4, 5, 9] 10 rfl rfl ?_
        refine At.draw (es := []) (pv := [(0, .int .i64 0), (1, .int .i64 0), (2, .bool false), (3, .bool false), (4, .slice o17.A o17.l.length o17.C), (5, .slice y29.A y29.l.length y29.C), (6, .bool (decide (o17.l.map plI = y29.l.map plI))), (7, .bool false), (8, .bool false), (9, .bool false), (10, .slice A11 ((l.getD i (⟨none, 0, []⟩ : Bs)).l).length C12), (11, .slice A l.length C), (12, .int .i64 (i : Int)), (13, .pointer (some (eaddr A (i * tyL.sz)))), (14, .slice ((l.getD i (⟨none, 0, []⟩ : Bs)).A) ((l.getD i (⟨none, 0, []⟩ : Bs)).l).length ((l.getD i (⟨none, 0, []⟩ : Bs)).C)), (15, .bool true), (16, .bool false), (17, .bool false), (18, .bool false), (19, .pointer (some ⟨r1, 0, none⟩)), (20, .int .i64 ((if ob25 then 0 else (kb24).length : Nat) : Int)), (21, .pointer (some ⟨b10, 0, none⟩)), (22, .pointer (some ⟨b10, 0, none⟩)), (23, .pointer (some ⟨b10, 0, none⟩)), (24, .slice xb30.A xb30.l.length xb30.C), (25, .int .i64 (xb30.l.length : Int)), (26, .bool false), (27, .bool false), (28, .bool false), (29, .pointer (some ⟨r1, 0, none⟩)), (30, .bool ob25), (31, .pointer (some ⟨b10, 0, none⟩)), (32, .pointer (some ⟨b10, 0, none⟩)), (33, .pointer (some ⟨b10, 1, none⟩)), (34, .bool ob25), (35, .bool false), (36, .bool false)]) tf_mixed (by kernel_rfl) (by kernel_rfl) (by kernel_rfl) ?_
        refine ⟨⟨.inr ⟨_, rfl, rfl, .inl ⟨rfl, Do.move rfl⟩⟩, .inr ⟨_, rfl, rfl, .inl ⟨rfl, Do.move rfl⟩⟩, .inr ⟨_, rfl, rfl, .inl ⟨rfl, Do.asBool (Do.nei rfl rfl) (by decide)⟩⟩, .inr ⟨_, rfl, rfl, .inl ⟨rfl, Do.move rfl⟩⟩, .inr ⟨_, rfl, rfl, .inl ⟨⟨_, _, _, rfl, rfl, rfl, rfl⟩, Do.move rfl⟩⟩, .inr ⟨_, rfl, rfl, .inl ⟨⟨_, _, _, rfl, rfl, rfl, rfl⟩, Do.move rfl⟩⟩, .inr ⟨_, rfl, rfl, .inl ⟨⟨_, _, _, rfl, rfl, rfl, rfl⟩, Do.call tf_body27 rfl (sameitems_ok (l := o17.l) (m := y29.l) (o17.own.rd (i := 8) rfl) (y29.own.rd (i := 4) rfl) (fun x hx => ⟨Rd.pick [7] 10 rfl rfl (ho21e x hx).1, Rd.pick [7] 10 rfl rfl (ho21e x hx).2⟩) (fun x hx => ⟨Rd.pick [3] 10 rfl rfl (hy31e x hx).1, Rd.pick [3] 10 rfl rfl (hy31e x hx).2⟩))⟩⟩, .inr ⟨_, rfl, rfl, .inl ⟨⟨_, _, _, rfl, rfl, rfl, rfl⟩, Do.asBool (Do.not rfl) (by rw [decide_eq_true hsame9]; rfl)⟩⟩, .inr ⟨_, rfl, rfl, .inl ⟨rfl, Do.pickF rfl rfl⟩⟩, .inr ⟨_, rfl, rfl, .inl ⟨rfl, Do.move rfl⟩⟩, .inr ⟨_, rfl, rfl, .inl ⟨⟨_, _, _, rfl, rfl, rfl, rfl⟩, Do.move rfl⟩⟩, .inr ⟨_, rfl, rfl, .inl ⟨⟨_, _, _, rfl, rfl, rfl, rfl⟩, Do.move rfl⟩⟩, .inr ⟨_, rfl, rfl, .inl ⟨⟨_, _, _, rfl, rfl, rfl, rfl⟩, Do.move rfl⟩⟩, .inr ⟨_, rfl, rfl, .inl ⟨⟨_, _, _, rfl, rfl, rfl, rfl⟩, Do.indexL i (Rd.skip 10 h) Tryz.underlying33 tf_sz22 rfl rfl rfl (by omega)⟩⟩, .inr ⟨_, rfl, rfl, .inl ⟨⟨_, _, _, rfl, rfl, rfl, rfl⟩, Do.load (v := .slice ((l.getD i (⟨none, 0, []⟩ : Bs)).A) ((l.getD i (⟨none, 0, []⟩ : Bs)).l).length ((l.getD i (⟨none, 0, []⟩ : Bs)).C)) tf_flat22 rfl (Rd.cell0 (Rd.skip 10 h) (getD_some (⟨none, 0, []⟩ : Bs) (by omega)) rfl)⟩⟩, .inr ⟨_, rfl, rfl, .inl ⟨⟨_, _, _, rfl, rfl, rfl, rfl⟩, Do.asBool (Do.call tf_body18 rfl (same_ok (l := (l.getD i (⟨none, 0, []⟩ : Bs)).l) (l2 := (l.getD i (⟨none, 0, []⟩ : Bs)).l) (o14.rd (i := 9) rfl) (Rd.skip 10 (he _ (getD_mem (l := l) (i := i) (d := (⟨none, 0, []⟩ : Bs)) (by omega)))))) (decide_eq_true rfl)⟩⟩, .inr ⟨_, rfl, rfl, .inl ⟨⟨_, _, _, rfl, rfl, rfl, rfl⟩, Do.asBool (Do.not (b := true) rfl) rfl⟩⟩, .inr ⟨_, rfl, rfl, .inl ⟨rfl, Do.pickF rfl rfl⟩⟩, .inr ⟨_, rfl, rfl, .inl ⟨rfl, Do.move rfl⟩⟩, .inr ⟨_, rfl, rfl, .inl ⟨⟨_, _, _, rfl, rfl, rfl, rfl⟩, Do.move rfl⟩⟩, .inr ⟨_, rfl, rfl, .inl ⟨⟨_, _, _, rfl, rfl, rfl, rfl⟩, Do.call tf_body28 rfl (left2 hr23)⟩⟩, .inr ⟨_, rfl, rfl, .inl ⟨⟨_, _, _, rfl, rfl, rfl, rfl⟩, Do.move rfl⟩⟩, .inr ⟨_, rfl, rfl, .inl ⟨⟨_, _, _, rfl, rfl, rfl, rfl⟩, Do.nilCheck rfl⟩⟩, .inr ⟨_, rfl, rfl, .inl ⟨⟨_, _, _, rfl, rfl, rfl, rfl⟩, Do.fieldAddrB tf_fo39_0 rfl rfl⟩⟩, .inr ⟨_, rfl, rfl, .inl ⟨⟨_, _, _, rfl, rfl, rfl, rfl⟩, Do.load tf_flat22 rfl (Cell.own 6 0 rfl rfl rfl)⟩⟩, .inr ⟨_, rfl, rfl, .inl ⟨⟨_, _, _, rfl, rfl, rfl, rfl⟩, Do.lenL Tryz.underlying22 rfl⟩⟩, .inr ⟨_, rfl, rfl, .inl ⟨⟨_, _, _, rfl, rfl, rfl, rfl⟩, Do.asBool (Do.nei rfl rfl) (by rw [decide_eq_true hleft9]; rfl)⟩⟩, .inr ⟨_, rfl, rfl, .inl ⟨rfl, Do.pickF rfl rfl⟩⟩, .inr ⟨_, rfl, rfl, .inl ⟨rfl, Do.move rfl⟩⟩, .inr ⟨_, rfl, rfl, .inl ⟨⟨_, _, _, rfl, rfl, rfl, rfl⟩, Do.move rfl⟩⟩, .inr ⟨_, rfl, rfl, .inl ⟨⟨_, _, _, rfl, rfl, rfl, rfl⟩, Do.call tf_body29 rfl (over2 hr23)⟩⟩, .inr ⟨_, rfl, rfl, .inl ⟨⟨_, _, _, rfl, rfl, rfl, rfl⟩, Do.move rfl⟩⟩, .inr ⟨_, rfl, rfl, .inl ⟨⟨_, _, _, rfl, rfl, rfl, rfl⟩, Do.nilCheck rfl⟩⟩, .inr ⟨_, rfl, rfl, .inl ⟨⟨_, _, _, rfl, rfl, rfl, rfl⟩, Do.fieldAddrB tf_fo39_1 rfl rfl⟩⟩, .inr ⟨_, rfl, rfl, .inl ⟨⟨_, _, _, rfl, rfl, rfl, rfl⟩, Do.load tf_flat4 rfl (Cell.own 6 0 rfl rfl rfl)⟩⟩, .inr ⟨_, rfl, rfl, .inl ⟨⟨_, _, _, rfl, rfl, rfl, rfl⟩, Do.asBool (Do.neb Tryz.underlying4 rfl rfl) (by rw [beq_self_eq_true]; rfl)⟩⟩, .inr ⟨_, rfl, rfl, .inl ⟨rfl, Do.pickF rfl rfl⟩⟩, trivial⟩, by kernel_rfl, ?_⟩
        refine At.mono (E' := [(0, .slice A l.length C), (3, .pointer (some ⟨r1, 0, none⟩)), (4, .pointer (some ⟨b10, 0, none⟩)), (5, .int .i64 (i : Int)), (6, .slice A11 ((l.getD i (⟨none, 0, []⟩ : Bs)).l).length C12), (7, .slice o17.A o17.l.length o17.C), (82, .bool false)]) ⟨rfl, rfl, rfl, rfl, rfl, rfl, rfl, trivial⟩ ?_
        refine At.condF rfl ?_
        refine At.skip ?_
        refine At.seq ?_
        refine At.region ?_
        refine AtL.move (.inl rfl) rfl rfl ?_
        refine AtL.pick (H' := s13 :: ph18.s :: x19.s :: rdC r1 ph18 x19 (.slice none 0 0) g20 :: itS its28 :: y29.s :: xb30.s :: [(b10, .cells #[.slice xb30.A xb30.l.length xb30.C, .bool ob25] 39 (0, 0))] :: itS its16 :: o17.s :: H) [9, 0, 1, 2, 3, 4, 5, 6, 7, 8] 10 rfl rfl ?_
        refine AtL.call tf_body19 (.inl rfl) rfl rfl (over_own o14) ?_
        rintro _ _ ⟨s34, rfl, rfl⟩
        refine AtL.done ?_
        refine At.seq ?_
        refine At.region ?_
        refine AtL.assign (.inl rfl) rfl rfl ?_
        refine AtL.done ?_
        refine At.block ?_
        refine At.nil ?_
        refine At.pick (H' := [] :: itS its16 :: o17.s :: ph18.s :: x19.s :: rdC r1 ph18 x19 (.slice none 0 0) g20 :: xb30.s :: [(b10, .cells #[.slice xb30.A xb30.l.length xb30.C, .bool ob25] 39 (0, 0))] :: s34 :: itS its28 :: y29.s :: H) [0, 9, 10, 2, 3, 4, 7, 8, 1, 5, 6] 11 rfl rfl ?_
        refine At.loop2 (fun (k : Nat) (J : Seg) => [(0, .slice A l.length C), (3, .pointer (some ⟨r1, 0, none⟩)), (4, .pointer (some ⟨b10, 0, none⟩)), (5, .int .i64 (i : Int)), (7, .slice o17.A o17.l.length o17.C), (11, .int .i64 (k : Int))]) (fun (k : Nat) (J : Seg) => J :: itS (its16.drop k) :: o17.s :: ph18.s :: x19.s :: rdC r1 ph18 x19 (.slice none 0 0) g20 :: xb30.s :: [(b10, .cells #[.slice xb30.A xb30.l.length xb30.C, .bool ob25] 39 (0, 0))] :: s34 :: itS its28 :: y29.s :: H) (fun (k : Nat) (J : Seg) => k ≤ o17.l.length) (fun (k : Nat) (J : Seg) => o17.l.length - k) 0 [] (Nat.zero_le _) ⟨rfl, rfl, rfl, rfl, rfl, rfl, trivial⟩ rfl ?_
        rintro k J hk9 ihL2
        refine At.seq ?_
        refine At.seq ?_
        refine At.region ?_
        refine AtL.move (.inl rfl) rfl rfl ?_
        refine AtL.move (.inl rfl) rfl rfl ?_
        refine AtL.lenL Tryz.underlying40 (.inl rfl) rfl rfl ?_
        refine AtL.lss (.inl rfl) rfl rfl rfl ?_
        refine AtL.done ?_
        refine At.cond rfl ?_ ?_
        · intro hc5
          have hc5 : (k : Int) < (o17.l.length : Int) := of_decide_eq_true hc5
          refine At.skip ?_
          refine At.seq ?_
          refine At.block ?_
          obtain ⟨zi, hzd, hzv⟩ := item_at ho21 (show k < o17.l.length by omega)
          refine At.flat (flat_item hzd _ _) ?_
          refine At.region ?_
          refine AtL.move (.inl rfl) rfl rfl ?_
          refine AtL.move (.inl rfl) rfl rfl ?_
          refine AtL.indexL k (o17.own.rd (i := 3) rfl) Tryz.underlying40 tf_sz49 (.inl rfl) rfl rfl rfl rfl (by omega) ?_
          refine AtL.fieldAddr tf_fo49_2 (.inl rfl) rfl rfl ?_
          refine AtL.load (v := .slice ((o17.l.getD k ((0, [], [], 0, ⟨none, 0, []⟩, ⟨none, 0, []⟩, false) : Int × List UInt8 × List UInt8 × Int × Vs (List UInt8 × List UInt8) × Vs UInt8 × Bool)).2.2.2.2.2.1.A) ((o17.l.getD k ((0, [], [], 0, ⟨none, 0, []⟩, ⟨none, 0, []⟩, false) : Int × List UInt8 × List UInt8 × Int × Vs (List UInt8 × List UInt8) × Vs UInt8 × Bool)).2.2.2.2.2.1.l).length ((o17.l.getD k ((0, [], [], 0, ⟨none, 0, []⟩, ⟨none, 0, []⟩, false) : Int × List UInt8 × List UInt8 × Int × Vs (List UInt8 × List UInt8) × Vs UInt8 × Bool)).2.2.2.2.2.1.C)) tf_flat22 (.inl rfl) rfl rfl (Rd.cell_at (o17.own.rd (i := 3) rfl) (j := 5) (getD_some ((0, [], [], 0, ⟨none, 0, []⟩, ⟨none, 0, []⟩, false) : Int × List UInt8 × List UInt8 × Int × Vs (List UInt8 × List UInt8) × Vs UInt8 × Bool) (by omega)) rfl) ?_
          refine AtL.pick (H' := zi.z.s :: (J ++ zi.f.s) :: itS (its16.drop (k + 1)) :: o17.s :: ph18.s :: x19.s :: rdC r1 ph18 x19 (.slice none 0 0) g20 :: xb30.s :: [(b10, .cells #[.slice xb30.A xb30.l.length xb30.C, .bool ob25] 39 (0, 0))] :: s34 :: itS its28 :: y29.s :: H) [1, 0, 2, 3, 4, 5, 6, 7, 8, 9, 10, 11] 12 rfl rfl ?_
          refine AtL.call tf_body19 (.inl rfl) rfl rfl (over_item hzv) ?_
          rintro _ _ ⟨s35, rfl, rfl⟩
          refine AtL.done ?_
          refine At.inBlock ?_
          refine At.region ?_
          refine AtL.move (.inl rfl) rfl rfl ?_
          refine AtL.add (z := (k : Int) + 1) (.inl rfl) rfl rfl rfl (w64 (by omega) (by omega)) ?_
          refine AtL.assign (.inl rfl) rfl rfl ?_
          refine AtL.done ?_
          refine At.pick (H' := (J ++ zi.f.s) :: s35 :: itS (its16.drop (k + 1)) :: o17.s :: ph18.s :: x19.s :: rdC r1 ph18 x19 (.slice none 0 0) g20 :: xb30.s :: [(b10, .cells #[.slice xb30.A xb30.l.length xb30.C, .bool ob25] 39 (0, 0))] :: s34 :: itS its28 :: y29.s :: H) [1, 0, 2, 3, 4, 5, 6, 7, 8, 9, 10, 11] 12 rfl rfl ?_
          refine At.flat (flat_merge _ _ _) ?_
          refine ihL2 (k + 1) ((J ++ zi.f.s) ++ s35) (by omega) (by omega) _ ?_
          exact ⟨rfl, rfl, rfl, rfl, rfl, (by first | rfl | exact slLen (by simp []) | exact intEq (by omega) | exact intEq (by simp []) | exact slLen (by simp []; omega)), trivial⟩
        · intro hc5
          have hc5 : ¬ ((k : Int) < (o17.l.length : Int)) := of_decide_eq_false hc5
          refine At.exit rfl ?_
          refine At.inBlock ?_
          refine At.region ?_
          refine AtL.move (.inl rfl) rfl rfl ?_
          refine AtL.add (z := (i : Int) + 1) (.inl rfl) rfl rfl rfl (w64 (by omega) (by omega)) ?_
          refine AtL.assign (.inl rfl) rfl rfl ?_
          refine AtL.done ?_
          refine At.pick (H' := ph18.s :: x19.s :: rdC r1 ph18 x19 (.slice none 0 0) g20 :: xb30.s :: [(b10, .cells #[.slice xb30.A xb30.l.length xb30.C, .bool ob25] 39 (0, 0))] :: H) [3, 4, 5, 6, 7] 11 rfl rfl ?_
          refine ihL1 (i + 1) ob25 ph18 x19 g20 xb30 (⟨by omega, by rw [flat_snoc14 (by omega), run_two hkb hov]; rw [hkb26, hob27] at hr23; exact hr23, by rw [flat_snoc14 (by omega), run_two hkb hov]; exact hob27, by rw [flat_snoc14 (by omega), run_two hkb hov, hx33, hkb26]⟩) (by omega) _ ?_
          exact ⟨rfl, (by first | rfl | exact slLen (by simp []) | exact intEq (by omega) | exact intEq (by simp []) | exact slLen (by simp []; omega)), rfl, (by first | rfl | exact slLen (by simp []) | exact intEq (by omega) | exact intEq (by simp []) | exact slLen (by simp []; omega)), trivial⟩
    · intro hc3
      have hc3 : ¬ ((i : Int) < (l.length : Int)) := of_decide_eq_false hc3
      refine At.exit rfl ?_
      refine At.seq ?_
      refine At.region ?_
      refine AtL.call tf_body23 (.inl rfl) rfl rfl (awake14_ok T) ?_
      rintro _ _ ⟨rfl, rfl⟩
      refine AtL.assign (.inl rfl) rfl rfl ?_
      refine AtL.done ?_
      refine At.pick (H' := H) [] 5 rfl rfl ?_
      exact At.ret Tryz.func4 rfl rfl (⟨rfl, rfl⟩)
end Go.Proofs.YtlkdmbpbjhjkfaaGreatDoor
namespace Go.Proofs.YtlkdmbpbjhjkfaaGreatDoor
set_option linter.unusedVariables false
theorem returns_listed {H : Type} {enc : TypeId × Value → H} {a : Assume} {C : Checked} {os : Os} {f : FuncId} {fn : Func} {s : ChangeSpec} {conds : List PathCond} {apart fresh handsOn again : Bool} {X : World → Array Value → Prop}
    (hX : ∀ (w w' : World) (args : Array Value), w.heap = w'.heap → X w args → X w' args) (own : ownKnob C.prog.godebug = none) (started : os.Started) (noInit : C.prog.inits.idxOf? f = none) (hfn : C.prog.funcs[f]? = some fn)
    (wit : ∃ (w : World) (tape : Tape) (i : Input), w.os = os ∧ (w.forCall tape i).Shaped C.prog ∧ i.vars = [] ∧ Input.okWide C.prog (w.forCall tape i) .any w.heap.size f i ∧
      ((s.pre enc C.prog fn conds apart (w.forCall tape i).memory i.args ∧ X (w.forCall tape i).memory i.args) ∧ sizedMet enc C.prog fn (OpenSpec.ofChange s) apart (w.forCall tape i).memory i.args) ∧ a.holds C.prog (lone (Frame.enter C.prog f i.args .normal) [] (w.forCall tape i)))
    (con : ∀ (W : World) (base : Nat) (args : Array Value) (ds gs : List (DataW H)) (before : List MemPlace), (∀ (j : Nat) t v, fn.params[j]? = some t → args[j]? = some v → Value.okWide C.prog W .any base t v) → DataW.Whole enc C.prog fn.params.toList s.vars apart W args.toList ds gs before →
      conds.all (PathCond.test C.prog ⟨fn.params.toList, ds, s.plain.varTypes C.prog, gs⟩) = true → (DataW.weightsEach C.prog (fn.params.toList ++ s.plain.varTypes C.prog) (ds ++ gs)).all (· ≤ reachBytes) = true → X W args → W.ShapedOpen C.prog →
      Calls C.prog f args W fun e W' => ∃ v, e = .returned v ∧ s.post enc C.prog fn apart fresh handsOn again W args v W') :
    ReturnsInHanded a C os f .any (fun w args => (s.pre enc C.prog fn conds apart w args ∧ X w args) ∧ sizedMet enc C.prog fn (OpenSpec.ofChange s) apart w args) (s.post enc C.prog fn apart fresh handsOn again) := by
  refine returnsInHanded_of_calls own started noInit wit ?_
  rintro w tape i _ hsh _ ⟨_, _, _, fn', hfn', _, _, _, _, hval⟩ ⟨⟨⟨ds, gs, before, hw, hc⟩, hx⟩, hz⟩ _
  obtain rfl : fn' = fn := Option.some.inj (hfn'.symm.trans hfn)
  refine (con (w.forCall tape i) w.heap.size i.args ds gs before hval (DataW.Whole.of_heap (w' := w.forCall tape i) (by rfl) hw) hc (hz.weights hw) (hX _ _ _ (by rfl) hx) hsh).mono ?_
  rintro _ W' ⟨v, rfl, hp⟩
  exact ChangeSpec.post_blind hp
end Go.Proofs.YtlkdmbpbjhjkfaaGreatDoor
namespace Go.Proofs.YtlkdmbpbjhjkfaaGreatDoor
set_option linter.unusedVariables false
set_option linter.unusedSimpArgs false
set_option maxRecDepth 100000
def u8ren : Go.Shelf.Ren := ⟨fun _ => 0, fun | 5 => 5 | 119 => 166 | 138 => 252 | 139 => 253 | _ => 0, fun | 3 => 4 | 4 => 5 | _ => 0⟩
theorem tabs_of {W : World} (hsh : W.ShapedOpen Tryz.prog) {d1 d2 : DataW Unit} (h3 : Go.Lib.VarReads Tryz.prog W "unicode/utf8.first" d1) (h4 : Go.Lib.VarReads Tryz.prog W "unicode/utf8.acceptRanges" d2) (e1 : d1 = Go.Lib.firstData := by kernel_rfl) (e2 : d2 = Go.Lib.acceptData := by kernel_rfl) : Tabs W W.heap.size := by
  subst e1; subst e2
  obtain ⟨m, hm⟩ := cell_of_shapedOpen_int (P := Tryz.prog) (g := 0) (t := 3) (zero := #[.int .i64 0]) hsh (of_decide_eq_true (by kernel_rfl)) (by kernel_rfl) rfl (by kernel_rfl) (by kernel_rfl) Tryz.underlying3
  have hu := Go.Proofs.utf8Tabs_of_readsT (P := Tryz.prog) (ρ := u8ren) { t5 := Tryz.underlying5, t119 := Tryz.underlying166, t138 := Tryz.underlying252, t139 := Tryz.underlying253 } { n3 := by kernel_rfl, n4 := by kernel_rfl, y3 := by kernel_rfl, y4 := by kernel_rfl, c5 := by kernel_rfl, c119 := by kernel_rfl, c138 := by kernel_rfl } h3 h4
  have h1 : ∀ c, c < 256 → W.cell? ⟨4, c, none⟩ = some (.int .u8 (Lib.firstT c)) := hu.1
  have h2 : ∀ i, i < 16 → W.cell? ⟨5, 2 * i, none⟩ = some (.int .u8 (Lib.accLo i)) ∧ W.cell? ⟨5, 2 * i + 1, none⟩ = some (.int .u8 (Lib.accHi i)) := hu.2
  exact ⟨cell_skip (h1 0 (by decide)), cell_skip (h2 0 (by decide)).1, h1, cell_skip hm, ⟨m, hm⟩, h2⟩
end Go.Proofs.YtlkdmbpbjhjkfaaGreatDoor
namespace Go.Proofs.YtlkdmbpbjhjkfaaGreatDoor
set_option linter.unusedVariables false
set_option linter.unusedSimpArgs false
set_option maxRecDepth 100000
theorem seat_main : Tryz.prog.mainIs = some ((true, "042db8cd397699b23d1f30724be7f7fd46a346a9a8aa6dfad5608fe212b22c42").1, (true, "042db8cd397699b23d1f30724be7f7fd46a346a9a8aa6dfad5608fe212b22c42").2.toList) := by kernel_rfl
theorem seat_looks : true = Tryz.prog.looks [] := by kernel_rfl
end Go.Proofs.YtlkdmbpbjhjkfaaGreatDoor
namespace Go.Proofs.YtlkdmbpbjhjkfaaGreatDoor.pHttpScript
open Go.ChangeShapes Go.WideShapes Go.ChangeAt Go.RowKit Go.Deep
open Go.ChangeMaps (open_string shut_string)
set_option linter.unusedVariables false
theorem own : ownKnob Tryz.prog.godebug = none := by kernel_rfl
theorem laidOut : laidOutB Tryz.prog = true := by kernel_rfl
set_option maxRecDepth 100000 in
theorem lifted (os : Os) (started : os.Started) (H : Type) (enc : TypeId × Value → H) :
    ReturnsInHanded {} Tryz.checked os 4 .any (fun w args => (Rows.httpScriptSpec.pre enc Tryz.prog Tryz.f4 Rows.httpScriptRow.domain false w args ∧ laidMetH Tryz.prog [("math/bits.deBruijn32tab", Rows.laid_math_bits_deBruijn32tab), ("math/bits.deBruijn64tab", Rows.laid_math_bits_deBruijn64tab), ("internal/strconv.uint64pow10", Rows.laid_internal_strconv_uint64pow10), ("unicode/utf8.acceptRanges", Rows.laid_unicode_utf8_acceptRanges), ("strconv.ErrRange", Rows.laid_strconv_ErrRange), ("strconv.ErrSyntax", Rows.laid_strconv_ErrSyntax), ("unicode/utf8.first", Rows.laid_unicode_utf8_first)] w) ∧ sizedMet enc Tryz.prog Tryz.f4 (OpenSpec.ofChange Rows.httpScriptSpec) false w args) (Rows.httpScriptSpec.post enc Tryz.prog Tryz.f4 false true false false) := by
  refine returns_listed (C := Tryz.checked) (X := fun w _ => laidMetH Tryz.prog [("math/bits.deBruijn32tab", Rows.laid_math_bits_deBruijn32tab), ("math/bits.deBruijn64tab", Rows.laid_math_bits_deBruijn64tab), ("internal/strconv.uint64pow10", Rows.laid_internal_strconv_uint64pow10), ("unicode/utf8.acceptRanges", Rows.laid_unicode_utf8_acceptRanges), ("strconv.ErrRange", Rows.laid_strconv_ErrRange), ("strconv.ErrSyntax", Rows.laid_strconv_ErrSyntax), ("unicode/utf8.first", Rows.laid_unicode_utf8_first)] w) (fun _ _ _ hh h => h.of_heap hh) own started (by kernel_rfl) Tryz.func4
    (ChangeSpec.witness_shaped (enc := enc) (C := Tryz.checked) (os := os) (X := fun w _ => laidMetH Tryz.prog [("math/bits.deBruijn32tab", Rows.laid_math_bits_deBruijn32tab), ("math/bits.deBruijn64tab", Rows.laid_math_bits_deBruijn64tab), ("internal/strconv.uint64pow10", Rows.laid_internal_strconv_uint64pow10), ("unicode/utf8.acceptRanges", Rows.laid_unicode_utf8_acceptRanges), ("strconv.ErrRange", Rows.laid_strconv_ErrRange), ("strconv.ErrSyntax", Rows.laid_strconv_ErrSyntax), ("unicode/utf8.first", Rows.laid_unicode_utf8_first)] w) false (World.laidAll Tryz.prog os [("math/bits.deBruijn32tab", Rows.laid_math_bits_deBruijn32tab), ("math/bits.deBruijn64tab", Rows.laid_math_bits_deBruijn64tab), ("internal/strconv.uint64pow10", Rows.laid_internal_strconv_uint64pow10), ("unicode/utf8.acceptRanges", Rows.laid_unicode_utf8_acceptRanges), ("strconv.ErrRange", Rows.laid_strconv_ErrRange), ("strconv.ErrSyntax", Rows.laid_strconv_ErrSyntax), ("unicode/utf8.first", Rows.laid_unicode_utf8_first)]) #[.slice none 0 0] 8 (World.laidAll_os _ _ _) (World.shaped_of_ZipB (by kernel_rfl) (by kernel_rfl)) (by kernel_rfl) (by kernel_rfl) (by kernel_rfl) (by rw [MakeChecks.laidMetH_plain _ _ _ (by kernel_rfl)]; exact laidMet_laidAll _ (by kernel_rfl) (by kernel_rfl))) ?_
  intro W base args ds gs before hval0 hW hcnd hsz0 hlaid hsh
  have hlaid' : laidMet Tryz.prog [("math/bits.deBruijn32tab", Rows.laid_math_bits_deBruijn32tab), ("math/bits.deBruijn64tab", Rows.laid_math_bits_deBruijn64tab), ("internal/strconv.uint64pow10", Rows.laid_internal_strconv_uint64pow10), ("unicode/utf8.acceptRanges", Rows.laid_unicode_utf8_acceptRanges), ("strconv.ErrRange", Rows.laid_strconv_ErrRange), ("strconv.ErrSyntax", Rows.laid_strconv_ErrSyntax), ("unicode/utf8.first", Rows.laid_unicode_utf8_first)] W := hlaid
  have hTabs : Tabs W W.heap.size := tabs_of hsh (Go.Lib.laidMet.reads hlaid' (n := "unicode/utf8.first") (d := Rows.laid_unicode_utf8_first) (.tail _ (.tail _ (.tail _ (.tail _ (.tail _ (.tail _ (.head _)))))))) (Go.Lib.laidMet.reads hlaid' (n := "unicode/utf8.acceptRanges") (d := Rows.laid_unicode_utf8_acceptRanges) (.tail _ (.tail _ (.tail _ (.head _)))))
  have hsz : ∀ (j : Nat) t d, Tryz.f4.params.toList[j]? = some t → ds[j]? = some d → ∀ n ∈ d.weights Tryz.prog t, n ≤ 140737488351232 := fun j t d ht hd n hn => by
    have h1 := List.all_eq_true.1 hsz0 n (DataW.weights_mem_each (j := j) (t := t) (d := d) (by rw [List.getElem?_append_left (List.getElem?_eq_some_iff.1 ht).1]; exact ht) (by rw [List.getElem?_append_left (List.getElem?_eq_some_iff.1 hd).1]; exact hd) n hn)
    exact of_decide_eq_true h1
  have hval : ∀ (j : Nat) t v, Tryz.f4.params[j]? = some t → args[j]? = some v → Value.okWide Tryz.prog W .any base t v := hval0
  have hW' := hW
  obtain ⟨p, q, hA0, hV, rfl, hfz, hnd⟩ := hW
  have hA : DataW.TrodAll enc Tryz.prog W 0 (fun _ => true) true Tryz.f4.params.toList args.toList ds p := hA0
  rw [Tryz.params4] at hA hval hsz
  obtain ⟨v0, vs0, d0, ds0, p0, q0, hargs, rfl, rfl, h0, tr0⟩ := trodAll_cons hA
  obtain ⟨rfl, rfl, rfl⟩ := trodAll_nil tr0
  obtain rfl : args = #[v0] := by cases args; simp_all
  obtain ⟨rfl, rfl⟩ := trodVars_none hV
  have k0 := h0
  have lt0 : ∀ x ∈ p0, x.block < W.heap.size := by obtain ⟨m, hm⟩ := k0; exact DataW.trod_lt m _ _ _ hm
  obtain ⟨A0, C0, l0, rfl, r0, b0, q0⟩ := arg_slice Tryz.underlying33 (by kernel_rfl) (by decide) 24 (by kernel_rfl) (Reads.slice Tryz.underlying22 (by kernel_rfl) (by decide) 1 (by kernel_rfl) (Reads.u8 Tryz.underlying5)) (hval 0 33 v0 rfl rfl) h0 (hsz 0 33 d0 rfl rfl)
  clear hA0 hval0
  refine (law_of (httpscript_ok (l := l0) r0 (fun x hx => (q0 x hx).1) (fun x hx => by have := (q0 x hx).2.1; omega) hTabs)).mono fun e W' ⟨he, bel⟩ => ?_
  subst he
  exact ⟨_, rfl, _, _, _, [], _, [], hW', trodAll_mk1 (shut_bool Tryz.underlying4 _), (trodAll_cons_mk (Below.trod laidOut (by kernel_rfl) (of_decide_eq_true (by kernel_rfl)) k0 bel lt0) trodAll_mk0), rfl, bel.frame _, fun h => by cases h⟩
theorem jf0 : (Rows.httpScriptRow.inPlace == Tryz.prog.inPlace 4) = true := by kernel_rfl
theorem jf1 : (Rows.httpScriptRow.unfollowed == Tryz.prog.unfollowed 4) = true := by kernel_rfl
theorem jf2 : (Rows.httpScriptRow.recurses == Tryz.prog.recurses 4) = true := by kernel_rfl
theorem jf3 : (Rows.httpScriptRow.named == Tryz.prog.varsNamed 4) = true := by kernel_rfl
theorem jall : joinedFacts Tryz.prog 4 Tryz.f4 Rows.httpScriptSpec Rows.httpScriptRow = true := by
  unfold joinedFacts
  rw [jf0, jf1, jf2, jf3]
  kernel_rfl
theorem over : Rows.httpScriptRow.holds Tryz.pinned (OpenSpec.ofChange Rows.httpScriptSpec) :=
  OpenClaim.holds_of_wide 4 Tryz.f4 rfl rfl rfl rfl rfl rfl rfl ⟨rfl, rfl, rfl, rfl, rfl⟩ rfl rfl rfl rfl rfl (by kernel_rfl) Tryz.func4 jall
    (of_decide_eq_true (by kernel_rfl)) (by unfold Func.isWrapper; first | (rw [if_pos (by decide +kernel)]; kernel_rfl) | (rw [if_neg (by decide +kernel)]; exact ⟨rfl, rfl⟩))
    (fun os started H enc _ => lifted os started H enc)
theorem pf0 : Rows.httpScriptRow.wfByText (OpenSpec.ofChange Rows.httpScriptSpec) = true := by kernel_rfl
theorem pf3 : false = Rows.httpScriptRow.goesBy Tryz.prog := by kernel_rfl
theorem proved : Rows.HttpScriptCardSaid :=
  Claim7.holds_tied_plain_at .later [] [.data, .data, .data, .data, .sentinel, .sentinel, .pinned] true (true, "042db8cd397699b23d1f30724be7f7fd46a346a9a8aa6dfad5608fe212b22c42") true
    over (fun _ h => by cases h) pf0 (fun _ h => by cases h) httpScript_row_tie rfl ⟨rfl, rfl⟩ seat_main rfl
    (fun f fn hf hfn => by
      obtain rfl : f = 4 := Option.some.inj ((show Tryz.prog.funcNamed "ostiary/ostiarylaw14.HttpScript" = some 4 by kernel_rfl).symm.trans hf) |>.symm
      obtain rfl : fn = Tryz.f4 := (Option.some.inj (Tryz.func4.symm.trans hfn)).symm
      exact ⟨seat_looks, fun j t ht => by
        rw [Tryz.params4] at ht
        have hm : t ∈ ([33] : List Nat) := by simpa using Array.mem_of_getElem? ht
        have hall : (([33] : List Nat).all fun u => !Tryz.prog.wantsStandIn u) = true := by kernel_rfl
        exact (show Tryz.prog.wantsStandIn t = false by simpa using List.all_eq_true.1 hall t hm)⟩)
    pf3
end Go.Proofs.YtlkdmbpbjhjkfaaGreatDoor.pHttpScript
