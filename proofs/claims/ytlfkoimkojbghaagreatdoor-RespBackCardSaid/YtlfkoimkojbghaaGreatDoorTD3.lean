/- Responses: the answer reads. -/
import Derived.Test.YtlfkoimkojbghaaGreatDoorTD2
namespace Go.Proofs.YtlfkoimkojbghaaGreatDoor
set_option linter.unusedVariables false
set_option linter.unusedSimpArgs false
set_option maxRecDepth 100000

/-- A line, as the answer tells it. -/
def lineF (b : List UInt8) (p : Nat) : List UInt8 × Nat × Bool := match cutCR (b.drop p) with | none => ([], 0, false) | some (l, r) => (l, b.length - r.length, true)
theorem cr_end {b : List UInt8} {i : Nat} (h : b.length ≤ i + 1) : cutCR (b.drop i) = none := by
  have hl : (b.drop i).length ≤ 1 := by rw [List.length_drop]; omega
  match hd : b.drop i, hl with
  | [], _ => rfl
  | [c], _ => simp [cutCR]
theorem cr_two {b : List UInt8} {i : Nat} (h : i + 1 < b.length) : b.drop i = b.getD i 0 :: b.getD (i + 1) 0 :: b.drop (i + 2) := by
  rw [List.drop_eq_getElem_cons (show i < b.length by omega), List.drop_eq_getElem_cons (show i + 1 < b.length by omega)]
  have e1 : b[i] = b.getD i 0 := by simp [List.getD, show i < b.length by omega]
  have e2 : b[i + 1] = b.getD (i + 1) 0 := by simp [List.getD, h]
  rw [e1, e2]
theorem cr_yes {b : List UInt8} {i : Nat} (h : i + 1 < b.length) (h1 : ((b.getD i 0).toNat : Int) = 13 ∧ ((b.getD (i + 1) 0).toNat : Int) = 10) : cutCR (b.drop i) = some ([], b.drop (i + 2)) := by
  have a1 : b.getD i 0 = 13 := u8_ofInt (b := 13) (by rw [h1.1]; rfl)
  have a2 : b.getD (i + 1) 0 = 10 := u8_ofInt (b := 10) (by rw [h1.2]; rfl)
  rw [cr_two h, a1, a2]; rfl
theorem cr_no {b : List UInt8} {i : Nat} (h : i + 1 < b.length) (h1 : ¬ (((b.getD i 0).toNat : Int) = 13 ∧ ((b.getD (i + 1) 0).toNat : Int) = 10)) : cutCR (b.drop i) = (cutCR (b.drop (i + 1))).map fun q => (b.getD i 0 :: q.1, q.2) := by
  have e : b.drop (i + 1) = b.getD (i + 1) 0 :: b.drop (i + 2) := by
    rw [List.drop_eq_getElem_cons h]
    have e2 : b[i + 1] = b.getD (i + 1) 0 := by simp [List.getD, h]
    rw [e2]
  rw [cr_two h, ← e, cutCR, if_neg]
  intro h2
  apply h1
  rw [e] at h2
  simp only [List.head?_cons, Option.some.injEq] at h2
  rw [h2.1, h2.2]; decide
theorem line_yes {b : List UInt8} {p i : Nat} (hp : p ≤ i) (h : i + 1 < b.length) (hc : cutCR (b.drop p) = (cutCR (b.drop i)).map fun q => (subl b p i ++ q.1, q.2)) (h1 : ((b.getD i 0).toNat : Int) = 13 ∧ ((b.getD (i + 1) 0).toNat : Int) = 10) : lineF b p = (subl b p i, i + 2, true) := by
  have e : cutCR (b.drop p) = some (subl b p i, b.drop (i + 2)) := by rw [hc, cr_yes h h1]; simp
  unfold lineF
  rw [e]
  dsimp only
  rw [List.length_drop, show b.length - (b.length - (i + 2)) = i + 2 by omega]
theorem line_no {b : List UInt8} {p i : Nat} (h : b.length ≤ i + 1) (hc : cutCR (b.drop p) = (cutCR (b.drop i)).map fun q => (subl b p i ++ q.1, q.2)) : lineF b p = ([], 0, false) := by
  have e : cutCR (b.drop p) = none := by rw [hc, cr_end h]; rfl
  unfold lineF
  rw [e]
theorem line_step {b : List UInt8} {p i : Nat} (hp : p ≤ i) (h : i + 1 < b.length) (hc : cutCR (b.drop p) = (cutCR (b.drop i)).map fun q => (subl b p i ++ q.1, q.2)) (h1 : ¬ (((b.getD i 0).toNat : Int) = 13 ∧ ((b.getD (i + 1) 0).toNat : Int) = 10)) : cutCR (b.drop p) = (cutCR (b.drop (i + 1))).map fun q => (subl b p (i + 1) ++ q.1, q.2) := by
  rw [hc, cr_no h h1, Option.map_map]
  congr 1
  funext q
  have e : subl b p (i + 1) = subl b p i ++ [b.getD i 0] := by
    unfold subl
    rw [show i + 1 - p = (i - p) + 1 by omega, List.take_succ_eq_append_getElem (by rw [List.length_drop]; omega)]
    congr 2
    rw [List.getElem_drop]
    simp [List.getD, show p + (i - p) = i by omega, show i < b.length by omega]
  simp [e]
theorem line_start (b : List UInt8) (p : Nat) : cutCR (b.drop p) = (cutCR (b.drop p)).map fun q => (subl b p p ++ q.1, q.2) := by
  have e : subl b p p = [] := by simp [subl]
  cases cutCR (b.drop p) with
  | none => rfl
  | some q => simp [e]
theorem line_le {b : List UInt8} {p : Nat} (h : (lineF b p).2.2 = true) : p + (lineF b p).1.length + 2 = (lineF b p).2.1 ∧ (lineF b p).2.1 ≤ b.length ∧ cutCR (b.drop p) = some ((lineF b p).1, b.drop (lineF b p).2.1) := by
  unfold lineF at h ⊢
  cases hc : cutCR (b.drop p) with
  | none => rw [hc] at h; cases h
  | some q =>
    obtain ⟨l, r⟩ := q
    have hl := cutCR_len hc
    have hn := congrArg List.length hl
    simp only [List.length_drop, List.length_append, List.length_cons] at hn
    dsimp only
    refine ⟨by omega, by omega, ?_⟩
    have : b.drop (b.length - r.length) = r := by
      have e1 : b.length - r.length = p + (l.length + 2) := by omega
      rw [e1, ← List.drop_drop, hl, List.drop_append]; simp
    rw [this]
theorem line_not {b : List UInt8} {p : Nat} (h : (lineF b p).2.2 = false) : cutCR (b.drop p) = none := by
  unfold lineF at h
  cases hc : cutCR (b.drop p) with
  | none => rfl
  | some q => rw [hc] at h; cases h

set_option maxHeartbeats 400000 in
theorem rline_ok {w0 : World} {base : Nat} {H : List Seg} {A : Option Addr} {C : Nat} {b : List UInt8} (p : Nat) (h : Rd tyB w0 base H A C b) (hp : p ≤ b.length) (hbl : b.length ≤ 4294967280) :
    SCalls Tryz.prog 93 [.slice A b.length C, .int .i64 (p : Int)] w0 base (H) (fun v H' => v = .tuple #[str (lineF b p).1, int ((lineF b p).2.1 : Int), .bool (lineF b p).2.2] ∧ H' = H) := by
  have hcap0 := h.cap
  have hle0 := h.le
  refine SCalls.of_walk (n := 36) Tryz.func93 rfl rfl rfl fun cs => ?_
  refine At.seq ?_
  refine At.region ?_
  refine AtL.assign (.inl rfl) rfl rfl ?_
  refine AtL.assign (.inl rfl) rfl rfl ?_
  refine AtL.assign (.inl rfl) rfl rfl ?_
  refine AtL.done ?_
  refine At.seq ?_
  refine At.seq ?_
  refine At.region ?_
  refine AtL.move (.inl rfl) rfl rfl ?_
  refine AtL.assign (.inl rfl) rfl rfl ?_
  refine AtL.done ?_
  refine At.block ?_
  refine At.loop (fun (i : Nat) => [(0, .slice A b.length C), (1, .int .i64 (p : Int)), (7, .int .i64 (i : Int))]) (fun (i : Nat) => H) (fun (i : Nat) => p ≤ i ∧ i ≤ b.length ∧ cutCR (b.drop p) = (cutCR (b.drop i)).map fun q => (subl b p i ++ q.1, q.2)) (fun (i : Nat) => b.length - i) p (⟨Nat.le_refl _, hp, line_start b p⟩) ⟨rfl, rfl, rfl, trivial⟩ rfl ?_
  rintro i ⟨hpi, hib, hcr⟩ ihL1
  refine At.seq ?_
  refine At.seq ?_
  refine At.region ?_
  refine AtL.move (.inl rfl) rfl rfl ?_
  refine AtL.add (z := (i : Int) + 1) (.inl rfl) rfl rfl rfl (w64 (by omega) (by omega)) ?_
  refine AtL.move (.inl rfl) rfl rfl ?_
  refine AtL.lenL Tryz.underlying22 (.inl rfl) rfl rfl ?_
  refine AtL.lss (.inl rfl) rfl rfl rfl ?_
  refine AtL.done ?_
  refine At.cond rfl ?_ ?_
  · intro hc1
    have hc1 : ((i : Int) + 1) < (b.length : Int) := of_decide_eq_true hc1
    refine At.skip ?_
    refine At.seq ?_
    refine At.block ?_
    refine At.seq ?_
    refine At.region ?_
    refine AtL.move (.inl rfl) rfl rfl ?_
    refine AtL.move (.inl rfl) rfl rfl ?_
    refine AtL.indexL i h Tryz.underlying22 tf_sz5 (.inl rfl) rfl rfl rfl rfl (by omega) ?_
    refine AtL.load (v := .int .u8 ((b.getD i 0).toNat : Int)) tf_flat5 (.inl rfl) rfl rfl (Rd.cell0 h (getD_some 0 (by omega)) rfl) ?_
    refine AtL.eqi (.inl rfl) rfl rfl rfl ?_
    refine AtL.move (.inl rfl) rfl rfl ?_
    refine AtL.join 7 (E' := [(28, .bool (decide ((((b.getD i 0).toNat : Int) = 13) ∧ (((b.getD (i + 1) 0).toNat : Int) = 10)))), (0, .slice A b.length C), (1, .int .i64 (p : Int)), (7, .int .i64 (i : Int))]) (H' := H) (fun J => ?_) ?_
    · refine AtL.split (t := 21) rfl ?_ ?_
      · intro hs21
        have hs21 : ((b.getD i 0).toNat : Int) = 13 := of_decide_eq_true hs21
        refine AtL.move (.inr ⟨_, _, _, rfl, rfl, rfl, rfl⟩) rfl rfl ?_
        refine AtL.move (.inr ⟨_, _, _, rfl, rfl, rfl, rfl⟩) rfl rfl ?_
        refine AtL.add (z := (i : Int) + 1) (.inr ⟨_, _, _, rfl, rfl, rfl, rfl⟩) rfl rfl rfl (w64 (by omega) (by omega)) ?_
        refine AtL.indexL (i + 1) h Tryz.underlying22 tf_sz5 (.inr ⟨_, _, _, rfl, rfl, rfl, rfl⟩) rfl rfl rfl rfl (by omega) ?_
        refine AtL.load (v := .int .u8 ((b.getD (i + 1) 0).toNat : Int)) tf_flat5 (.inr ⟨_, _, _, rfl, rfl, rfl, rfl⟩) rfl rfl (Rd.cell0 h (getD_some 0 (by omega)) rfl) ?_
        refine AtL.eqi (.inr ⟨_, _, _, rfl, rfl, rfl, rfl⟩) rfl rfl rfl ?_
        refine AtL.pickT (.inl rfl) rfl rfl rfl ?_
        exact J _ (by exact ⟨(boolIs (by clear J; first | (simp [hs21]; done) | (simp_all; done) | grind)), rfl, rfl, rfl, trivial⟩)
      · intro hs21
        have hs21 : ¬ (((b.getD i 0).toNat : Int) = 13) := of_decide_eq_false hs21
        refine AtL.skipped rfl rfl rfl rfl rfl rfl ?_
        refine AtL.skipped rfl rfl rfl rfl rfl rfl ?_
        refine AtL.skipped rfl rfl rfl rfl rfl rfl ?_
        refine AtL.skipped rfl rfl rfl rfl rfl rfl ?_
        refine AtL.skipped rfl rfl rfl rfl rfl rfl ?_
        refine AtL.skipped rfl rfl rfl rfl rfl rfl ?_
        refine AtL.pickF (.inl rfl) rfl rfl rfl ?_
        exact J _ (by exact ⟨(boolIs (by clear J; first | (simp [hs21]; done) | (simp_all; done) | grind)), rfl, rfl, rfl, trivial⟩)
    · skip
      refine AtL.done ?_
      refine At.cond rfl ?_ ?_
      · intro hc2
        have hc2 : (((b.getD i 0).toNat : Int) = 13) ∧ (((b.getD (i + 1) 0).toNat : Int) = 10) := of_decide_eq_true hc2
        refine At.seq ?_
        refine At.region ?_
        refine AtL.move (.inl rfl) rfl rfl ?_
        refine AtL.move (.inl rfl) rfl rfl ?_
        refine AtL.move (.inl rfl) rfl rfl ?_
        have hleo3 := Rd.le h
        refine AtL.sliceR 0 p i C h (evBound_some rfl rfl) (evBound_some rfl rfl) rfl (by intro h; cases h) (by omega) (by omega) (by omega) (by omega) Tryz.underlying22 tf_sz5 (.inl rfl) rfl rfl ?_
        clear hleo3
        intro A1 C2 (o3 : Rd tyB w0 base H A1 C2 (subl b p i))
        have hlo3 : (subl b p i).length = i - p := subl_len (by omega)
        refine AtL.strOf o3 Tryz.underlying22 Tryz.underlying5 Tryz.underlying9 (.inl rfl) rfl rfl ?_
        refine AtL.move (.inl rfl) rfl rfl ?_
        refine AtL.add (z := (i : Int) + 2) (.inl rfl) rfl rfl rfl (w64 (by omega) (by omega)) ?_
        refine AtL.assign (.inl rfl) rfl rfl ?_
        refine AtL.assign (.inl rfl) rfl rfl ?_
        refine AtL.assign (.inl rfl) rfl rfl ?_
        refine AtL.done ?_
        exact At.ret Tryz.func93 rfl rfl (⟨by rw [line_yes hpi (by omega) hcr hc2]; rfl, rfl⟩)
      · intro hc2
        have hc2 : ¬ ((((b.getD i 0).toNat : Int) = 13) ∧ (((b.getD (i + 1) 0).toNat : Int) = 10)) := of_decide_eq_false hc2
        refine At.skip ?_
        refine At.inBlock ?_
        refine At.region ?_
        refine AtL.move (.inl rfl) rfl rfl ?_
        refine AtL.add (z := (i : Int) + 1) (.inl rfl) rfl rfl rfl (w64 (by omega) (by omega)) ?_
        refine AtL.assign (.inl rfl) rfl rfl ?_
        refine AtL.done ?_
        refine ihL1 (i + 1) (⟨by omega, by omega, line_step hpi (by omega) hcr hc2⟩) (by omega) _ ?_
        exact ⟨rfl, rfl, (by first | rfl | exact slLen (by simp []) | exact intEq (by omega) | exact intEq (by simp []) | exact slLen (by simp []; omega)), trivial⟩
  · intro hc1
    have hc1 : ¬ (((i : Int) + 1) < (b.length : Int)) := of_decide_eq_false hc1
    refine At.exit rfl ?_
    refine At.seq ?_
    refine At.region ?_
    refine AtL.assign (.inl rfl) rfl rfl ?_
    refine AtL.assign (.inl rfl) rfl rfl ?_
    refine AtL.assign (.inl rfl) rfl rfl ?_
    refine AtL.done ?_
    exact At.ret Tryz.func93 rfl rfl (⟨by rw [line_no (by omega) hcr]; rfl, rfl⟩)

theorem ref_c2 {b : List UInt8} {p : Nat} (h : (lineF b p).2.2 = false ∨ ((lineF b p).1.length : Int) < 13) : rreadF (b.drop p) = none := by
  unfold rreadF
  by_cases h1 : (lineF b p).2.2 = true
  · obtain ⟨_, _, h2⟩ := line_le h1
    rw [h2]
    dsimp only
    rw [if_pos (by rcases h with h | h; rw [h1] at h; cases h; omega)]
  · rw [line_not (by simpa using h1)]
theorem ref_h0 {b f : List UInt8} {p q0 : Nat} (hc : cutCR (b.drop p) = some (f, b.drop q0)) (hh : hdrsP (b.drop q0) (-1) true [] = none) : rreadF (b.drop p) = none := by
  unfold rreadF
  rw [hc]
  dsimp only
  rw [hh]
  split <;> rfl
theorem ref_end {b f : List UInt8} {p q0 n : Nat} {sz : Int} {kp : Bool} {fs : List Fld} (hc : cutCR (b.drop p) = some (f, b.drop q0)) (hf : 13 ≤ f.length) (hh : hdrsP (b.drop q0) (-1) true [] = some (sz, kp, fs, b.drop n)) :
    rreadF (b.drop p) = if sz < 0 ∨ ((b.drop n).length : Int) < sz then none else some (⟨atoiV (subl f 9 12), fs, (b.drop n).take sz.toNat, kp⟩, (b.drop n).drop sz.toNat) := by
  unfold rreadF
  rw [hc]
  dsimp only
  rw [if_neg (by omega), hh]
  rfl
theorem ref_fail {b : List UInt8} {p : Nat} (hp : p ≤ b.length) (h : rreadF (b.drop p) = none) : readF b (p : Int) = (.zero, 0, 4) := read_no (by omega) (ref_none h)
theorem ref_take {b t : List UInt8} {p m : Nat} (hm : p ≤ m) (hm2 : m ≤ b.length) (ht : t.length = b.length - m) : (b.drop p).take ((b.drop p).length - t.length) = subl b p m := by
  unfold subl
  rw [List.length_drop, ht, show b.length - p - (b.length - m) = m - p by omega]
theorem ref_fail2 {b t : List UInt8} {p m : Nat} {R : RespV} (h : rreadF (b.drop p) = some (R, t)) (hm : p ≤ m) (hm2 : m ≤ b.length) (ht : t.length = b.length - m) (h2 : ¬ respE R = 0 ∨ ¬ respL R = subl b p m) : readF b (p : Int) = (.zero, 0, 4) := by
  refine read_no (by omega) (ref_bad (B := b.drop p) h ?_)
  rintro ⟨ho, he⟩
  have e1 : respE R = 0 := by rw [respE, if_pos ho]
  have e2 : respL R = respB R := by rw [respL, if_pos ho]
  rcases h2 with h2 | h2
  · exact h2 e1
  · exact h2 (by rw [e2, he, ref_take hm hm2 ht])
theorem ref_succ {b t : List UInt8} {p m : Nat} {R : RespV} (h : rreadF (b.drop p) = some (R, t)) (hm : p ≤ m) (hm2 : m ≤ b.length) (ht : t.length = b.length - m) (h2 : ¬ (¬ respE R = 0 ∨ ¬ respL R = subl b p m)) : readF b (p : Int) = (R, (m : Int), 0) := by
  simp only [not_or, Classical.not_not] at h2
  obtain ⟨h3, h4⟩ := h2
  have ho := respE_ok h3
  have e2 : respL R = respB R := by rw [respL, if_pos ho]
  rw [e2] at h4
  have hl := congrArg List.length h4
  rw [subl_len hm2] at hl
  rw [read_yes (r := R) (by omega) ho ?_, show (p : Int) + ((respB R).length : Int) = (m : Int) by omega]
  rw [h4, Int.toNat_natCast]
  exact List.take_prefix _ _
theorem occ_no {l : List UInt8} {k : Nat} (hk : k + 1 < l.length) (h : ¬ ((l.getD k 0).toNat : Int) = 58 ∨ ¬ ((l.getD (k + 1) 0).toNat : Int) = 32) : Lib.occAt l [58, 32] k = false := by
  rw [Lib.occAt, cr_two hk]
  simp only [List.isPrefixOf, Bool.and_true, Bool.and_eq_false_iff, beq_eq_false_iff_ne]
  rcases h with h | h
  · exact .inl fun e => h (by rw [← e]; rfl)
  · exact .inr fun e => h (by rw [← e]; rfl)
theorem occ_end {l : List UInt8} {k : Nat} (hk : l.length ≤ k + 1) : Lib.occAt l [58, 32] k = false := by
  have hl : (l.drop k).length ≤ 1 := by rw [List.length_drop]; omega
  rw [Lib.occAt]
  match hd : l.drop k, hl with
  | [], _ => rfl
  | [c], _ => simp [List.isPrefixOf]
theorem cutR_no {l : List UInt8} {k : Nat} (hk : l.length ≤ k + 1) (h : ∀ m, m < k → Lib.occAt l [58, 32] m = false) : (Lib.cut l [58, 32]).2.2 = false := by
  have e : Lib.index l [58, 32] = -1 := Lib.index_none fun j hj => by
    rcases Nat.lt_or_ge j k with h1 | h1
    · exact h j h1
    · exact occ_end (by omega)
  unfold Lib.cut
  rw [e, if_neg (by decide)]
theorem cutR_yes {l : List UInt8} {k : Nat} (hk : k + 1 < l.length) (h : ∀ m, m < k → Lib.occAt l [58, 32] m = false) (hc : ¬ (¬ ((l.getD k 0).toNat : Int) = 58 ∨ ¬ ((l.getD (k + 1) 0).toNat : Int) = 32)) : Lib.cut l [58, 32] = (subl l 0 k, subl l (k + 2) l.length, true) := by
  simp only [not_or, Classical.not_not] at hc
  have a1 : l.getD k 0 = 58 := u8_ofInt (b := 58) (by rw [hc.1]; rfl)
  have a2 : l.getD (k + 1) 0 = 32 := u8_ofInt (b := 32) (by rw [hc.2]; rfl)
  have e : Lib.index l [58, 32] = (k : Int) := Lib.index_first (by omega) (by rw [Lib.occAt, cr_two hk, a1, a2]; simp [List.isPrefixOf]) h
  unfold Lib.cut
  rw [e, if_pos (by omega), Int.toNat_natCast, subl_to, subl_from]
  rfl

set_option maxHeartbeats 1000000 in
theorem rread15_ok {w0 : World} {base : Nat} {H : List Seg} {A : Option Addr} {C : Nat} {b : List UInt8} (a : Int) (h : Rd tyB w0 base H A C b) (hbl : b.length ≤ 4294967280) (ET : ErrTab w0 base) (T10 : Tab10 w0 base) :
    SCalls Tryz.prog 40 [.slice A b.length C, .int .i64 a] w0 base (H) (fun v H' => ∃ R : RespV, R = (readF b a).1 ∧ ∃ (x : Sl tyField 52) (y : Sl tyB 5), x.l = R.fs ∧ y.l = R.body ∧ v = .tuple #[.agg #[int R.st, .slice x.A x.l.length x.C, .slice y.A y.l.length y.C, .bool R.keep], int (readF b a).2.1, int (readF b a).2.2] ∧ H' = x.s :: y.s :: H) := by
  have hcap0 := h.cap
  have hle0 := h.le
  refine SCalls.of_walk (n := 160) Tryz.func40 rfl rfl rfl fun cs => ?_
  refine At.seq ?_
  refine At.region ?_
  refine AtL.alloc tf_zero42 (cs := #[.int .i64 0, .slice none 0 0, .slice none 0 0, .bool false]) rfl (.inl rfl) rfl ?_
  intro b1
  refine AtL.assign (.inl rfl) rfl rfl ?_
  refine AtL.assign (.inl rfl) rfl rfl ?_
  refine AtL.done ?_
  refine At.seq ?_
  refine At.seq ?_
  refine At.region ?_
  refine AtL.move (.inl rfl) rfl rfl ?_
  refine AtL.lss (.inl rfl) rfl rfl rfl ?_
  refine AtL.move (.inl rfl) rfl rfl ?_
  refine AtL.join 5 (E' := [(27, .bool (decide (((a : Int) < 0) ∨ ((b.length : Int) < a)))), (0, .slice A b.length C), (1, .int .i64 a), (4, .pointer (some ⟨b1, 0, none⟩))]) (H' := [(b1, .cells #[.int .i64 0, .slice none 0 0, .slice none 0 0, .bool false] 42 (0, 0))] :: H) (fun J => ?_) ?_
  · refine AtL.split (t := 22) rfl ?_ ?_
    · intro hs22
      have hs22 : (a : Int) < 0 := of_decide_eq_true hs22
      refine AtL.skipped rfl rfl rfl rfl rfl rfl ?_
      refine AtL.skipped rfl rfl rfl rfl rfl rfl ?_
      refine AtL.skipped rfl rfl rfl rfl rfl rfl ?_
      refine AtL.skipped rfl rfl rfl rfl rfl rfl ?_
      refine AtL.pickT (.inl rfl) rfl rfl rfl ?_
      exact J _ (by exact ⟨(boolIs (by clear J; first | (simp [hs22]; done) | (simp_all; done) | grind)), rfl, rfl, rfl, trivial⟩)
    · intro hs22
      have hs22 : ¬ ((a : Int) < 0) := of_decide_eq_false hs22
      refine AtL.move (.inr ⟨_, _, _, rfl, rfl, rfl, rfl⟩) rfl rfl ?_
      refine AtL.move (.inr ⟨_, _, _, rfl, rfl, rfl, rfl⟩) rfl rfl ?_
      refine AtL.lenL Tryz.underlying22 (.inr ⟨_, _, _, rfl, rfl, rfl, rfl⟩) rfl rfl ?_
      refine AtL.gtr (.inr ⟨_, _, _, rfl, rfl, rfl, rfl⟩) rfl rfl rfl ?_
      refine AtL.pickF (.inl rfl) rfl rfl rfl ?_
      exact J _ (by exact ⟨(boolIs (by clear J; first | (simp [hs22]; done) | (simp_all; done) | grind)), rfl, rfl, rfl, trivial⟩)
  · skip
    refine AtL.done ?_
    refine At.cond rfl ?_ ?_
    · intro hc1
      have hc1 : ((a : Int) < 0) ∨ ((b.length : Int) < a) := of_decide_eq_true hc1
      refine At.seq ?_
      refine At.region ?_
      refine AtL.build (cs := [.int .i64 0, .slice none 0 0, .slice none 0 0, .bool false]) tf_lay42 (.inl rfl) rfl rfl rfl ?_
      refine AtL.store (H' := [(b1, .cells #[.int .i64 0, .slice none 0 0, .slice none 0 0, .bool false] 42 (0, 0))] :: H) 0 0 tf_sz42 (.inl rfl) rfl rfl rfl rfl rfl rfl rfl rfl rfl ?_
      refine AtL.assign (.inl rfl) rfl rfl ?_
      refine AtL.assign (.inl rfl) rfl rfl ?_
      refine AtL.done ?_
      refine At.nil ?_
      refine At.nil ?_
      exact At.retMP (vs := [.agg #[.int .i64 0, .slice none 0 0, .slice none 0 0, .bool false], .int .i64 0, .int .i64 5]) (H2 := [] :: [] :: H) [0, 1] 3 rfl rfl Tryz.func40 rfl ⟨⟨_, rfl, LoadsTo.agg (cs := [.int .i64 0, .slice none 0 0, .slice none 0 0, .bool false]) tf_agg42 rfl (cellsOwn 2 0 0 rfl rfl rfl)⟩, rfl, rfl, trivial⟩ (⟨RespV.zero, by rw [read_range hc1], Sl.nil, Sl.nil, rfl, rfl, by rw [read_range hc1]; rfl, rfl⟩)
    · intro hc1
      have hc1 : ¬ (((a : Int) < 0) ∨ ((b.length : Int) < a)) := of_decide_eq_false hc1
      obtain ⟨p, rfl⟩ : ∃ p : Nat, a = (p : Int) := ⟨a.toNat, by omega⟩
      refine At.skip ?_
      refine At.seq ?_
      refine At.region ?_
      refine AtL.move (.inl rfl) rfl rfl ?_
      refine AtL.move (.inl rfl) rfl rfl ?_
      refine AtL.call tf_body93 (.inl rfl) rfl rfl (rline_ok (b := b) p (Rd.skip 1 h) (by omega) (by omega)) ?_
      rintro _ _ ⟨rfl, rfl⟩
      refine AtL.move (.inl rfl) rfl rfl ?_
      refine AtL.extract (.inl rfl) rfl rfl rfl ?_
      refine AtL.extract (.inl rfl) rfl rfl rfl ?_
      refine AtL.extract (.inl rfl) rfl rfl rfl ?_
      refine AtL.assign (.inl rfl) rfl rfl ?_
      refine AtL.assign (.inl rfl) rfl rfl ?_
      refine AtL.assign (.inl rfl) rfl rfl ?_
      refine AtL.done ?_
      refine At.seq ?_
      refine At.seq ?_
      refine At.region ?_
      refine AtL.move (.inl rfl) rfl rfl ?_
      refine AtL.not (.inl rfl) rfl rfl ?_
      refine AtL.move (.inl rfl) rfl rfl ?_
      refine AtL.join 4 (E' := [(42, .bool (decide ((((lineF b p).2.2) = false) ∨ ((((lineF b p).1).length : Int) < 13)))), (0, .slice A b.length C), (1, .int .i64 (p : Int)), (4, .pointer (some ⟨b1, 0, none⟩)), (7, str ((lineF b p).1)), (8, .int .i64 ((lineF b p).2.1 : Int))]) (H' := [(b1, .cells #[.int .i64 0, .slice none 0 0, .slice none 0 0, .bool false] 42 (0, 0))] :: H) (fun J => ?_) ?_
      · refine AtL.split (t := 38) rfl ?_ ?_
        · intro hs38
          have hs38 : ((lineF b p).2.2) = false := bnot_true hs38
          refine AtL.skipped rfl rfl rfl rfl rfl rfl ?_
          refine AtL.skipped rfl rfl rfl rfl rfl rfl ?_
          refine AtL.skipped rfl rfl rfl rfl rfl rfl ?_
          refine AtL.pickT (.inl rfl) rfl rfl rfl ?_
          exact J _ (by exact ⟨(boolIs (by clear J; first | (simp [hs38]; done) | (simp_all; done) | grind)), rfl, rfl, rfl, rfl, rfl, trivial⟩)
        · intro hs38
          have hs38 : ((lineF b p).2.2) = true := bnot_false hs38
          refine AtL.move (.inr ⟨_, _, _, rfl, rfl, rfl, rfl⟩) rfl rfl ?_
          refine AtL.lenS (l := (lineF b p).1) Tryz.underlying9 (.inr ⟨_, _, _, rfl, rfl, rfl, rfl⟩) rfl rfl ?_
          refine AtL.lss (.inr ⟨_, _, _, rfl, rfl, rfl, rfl⟩) rfl rfl rfl ?_
          refine AtL.pickF (.inl rfl) rfl rfl rfl ?_
          exact J _ (by exact ⟨(boolIs (by clear J; first | (simp [hs38]; done) | (simp_all; done) | grind)), rfl, rfl, rfl, rfl, rfl, trivial⟩)
      · skip
        refine AtL.done ?_
        refine At.cond rfl ?_ ?_
        · intro hc2
          have hc2 : (((lineF b p).2.2) = false) ∨ ((((lineF b p).1).length : Int) < 13) := of_decide_eq_true hc2
          have hrd := ref_fail (b := b) (p := p) (by omega) (ref_c2 hc2)
          refine At.seq ?_
          refine At.region ?_
          refine AtL.build (cs := [.int .i64 0, .slice none 0 0, .slice none 0 0, .bool false]) tf_lay42 (.inl rfl) rfl rfl rfl ?_
          refine AtL.store (H' := [(b1, .cells #[.int .i64 0, .slice none 0 0, .slice none 0 0, .bool false] 42 (0, 0))] :: H) 0 0 tf_sz42 (.inl rfl) rfl rfl rfl rfl rfl rfl rfl rfl rfl ?_
          refine AtL.assign (.inl rfl) rfl rfl ?_
          refine AtL.assign (.inl rfl) rfl rfl ?_
          refine AtL.done ?_
          refine At.nil ?_
          refine At.nil ?_
          exact At.retMP (vs := [.agg #[.int .i64 0, .slice none 0 0, .slice none 0 0, .bool false], .int .i64 0, .int .i64 4]) (H2 := [] :: [] :: H) [0, 1] 3 rfl rfl Tryz.func40 rfl ⟨⟨_, rfl, LoadsTo.agg (cs := [.int .i64 0, .slice none 0 0, .slice none 0 0, .bool false]) tf_agg42 rfl (cellsOwn 2 0 0 rfl rfl rfl)⟩, rfl, rfl, trivial⟩ (⟨RespV.zero, by rw [hrd], Sl.nil, Sl.nil, rfl, rfl, by rw [hrd]; rfl, rfl⟩)
        · intro hc2
          have hc2 : ¬ ((((lineF b p).2.2) = false) ∨ ((((lineF b p).1).length : Int) < 13)) := of_decide_eq_false hc2
          simp only [not_or, Bool.not_eq_false] at hc2
          obtain ⟨hn1, hn2, hcp⟩ := line_le hc2.1
          refine At.skip ?_
          refine At.seq ?_
          refine At.region ?_
          refine AtL.build (cs := [.int .i64 0, .slice none 0 0, .slice none 0 0, .bool true]) tf_lay42 (.inl rfl) rfl rfl rfl ?_
          refine AtL.alloc tf_zero42 (cs := #[.int .i64 0, .slice none 0 0, .slice none 0 0, .bool false]) rfl (.inl rfl) rfl ?_
          intro b2
          refine AtL.store (H' := [(b2, .cells #[.int .i64 0, .slice none 0 0, .slice none 0 0, .bool true] 42 (0, 0))] :: [(b1, .cells #[.int .i64 0, .slice none 0 0, .slice none 0 0, .bool false] 42 (0, 0))] :: H) 0 0 tf_sz42 (.inl rfl) rfl rfl rfl rfl rfl rfl rfl rfl rfl ?_
          refine AtL.done ?_
          refine At.seq ?_
          refine At.region ?_
          refine AtL.move (.inl rfl) rfl rfl ?_
          refine AtL.sliceS (l := (lineF b p).1) 9 12 (evBound_some rfl rfl) (evBound_some rfl rfl) (by omega) (by omega) Tryz.underlying9 (.inl rfl) rfl rfl ?_
          refine AtL.call tf_body94 (.inl rfl) rfl rfl (atoi_all (s := subl ((lineF b p).1) 9 12) (by first | omega | (rw [subl_len (by omega)]; omega)) ET) ?_
          rintro _ _ ⟨⟨te3, ea4, rfl⟩, rfl⟩
          refine AtL.move (.inl rfl) rfl rfl ?_
          refine AtL.extract (.inl rfl) rfl rfl rfl ?_
          refine AtL.extract (.inl rfl) rfl rfl rfl ?_
          refine AtL.fieldAddrB tf_fo42_0 (.inl rfl) rfl rfl rfl ?_
          refine AtL.store (H' := [(b2, .cells #[.int .i64 (atoiV (subl ((lineF b p).1) 9 12)), .slice none 0 0, .slice none 0 0, .bool true] 42 (0, 0))] :: [(b1, .cells #[.int .i64 0, .slice none 0 0, .slice none 0 0, .bool false] 42 (0, 0))] :: H) 0 0 tf_sz3 (.inl rfl) rfl rfl rfl rfl rfl rfl rfl rfl rfl ?_
          refine AtL.done ?_
          refine At.seq ?_
          refine At.region ?_
          refine AtL.assign (.inl rfl) rfl rfl ?_
          refine AtL.done ?_
          refine At.seq ?_
          refine At.block ?_
          refine At.nil ?_
          refine At.pick (H' := [(b2, .cells #[.int .i64 (atoiV (subl ((lineF b p).1) 9 12)), .slice none 0 0, .slice none 0 0, .bool true] 42 (0, 0))] :: [] :: [(b1, .cells #[.int .i64 0, .slice none 0 0, .slice none 0 0, .bool false] 42 (0, 0))] :: H) [1, 0, 2] 3 rfl rfl ?_
          refine At.loop4 (fun (q : Nat) (sz : Int) (kp : Bool) (x : Sl tyField 52) => [(0, .slice A b.length C), (1, .int .i64 (p : Int)), (4, .pointer (some ⟨b1, 0, none⟩)), (8, .int .i64 (q : Int)), (10, .pointer (some ⟨b2, 0, none⟩)), (11, .int .i64 sz)]) (fun (q : Nat) (sz : Int) (kp : Bool) (x : Sl tyField 52) => [(b2, .cells #[.int .i64 (atoiV (subl ((lineF b p).1) 9 12)), .slice x.A x.l.length x.C, .slice none 0 0, .bool kp] 42 (0, 0))] :: x.s :: [(b1, .cells #[.int .i64 0, .slice none 0 0, .slice none 0 0, .bool false] 42 (0, 0))] :: H) (fun (q : Nat) (sz : Int) (kp : Bool) (x : Sl tyField 52) => (q ≤ b.length ∧ (lineF b p).2.1 ≤ q) ∧ x.l.length ≤ q ∧ hdrsP (b.drop (lineF b p).2.1) (-1) true [] = hdrsP (b.drop q) sz kp x.l ∧ (∀ f ∈ x.l, f.1.length ≤ b.length ∧ f.2.length ≤ b.length)) (fun (q : Nat) (sz : Int) (kp : Bool) (x : Sl tyField 52) => b.length - q) ((lineF b p).2.1) (-1) true Sl.nil (⟨⟨hn2, Nat.le_refl _⟩, by simp [Sl.nil], rfl, fun f hf => absurd hf (by simp [Sl.nil])⟩) ⟨rfl, rfl, rfl, rfl, rfl, rfl, trivial⟩ rfl ?_
          rintro q sz kp x ⟨⟨hq, hqq⟩, hxq, hhd, hxb⟩ ihL1
          have hcap := Own.cap_le x.own
          refine At.block ?_
          refine At.seq ?_
          refine At.region ?_
          refine AtL.move (.inl rfl) rfl rfl ?_
          refine AtL.move (.inl rfl) rfl rfl ?_
          refine AtL.call tf_body93 (.inl rfl) rfl rfl (rline_ok (b := b) q (Rd.skip 3 h) (by omega) (by omega)) ?_
          rintro _ _ ⟨rfl, rfl⟩
          refine AtL.move (.inl rfl) rfl rfl ?_
          refine AtL.extract (.inl rfl) rfl rfl rfl ?_
          refine AtL.extract (.inl rfl) rfl rfl rfl ?_
          refine AtL.extract (.inl rfl) rfl rfl rfl ?_
          refine AtL.assign (.inl rfl) rfl rfl ?_
          refine AtL.assign (.inl rfl) rfl rfl ?_
          refine AtL.assign (.inl rfl) rfl rfl ?_
          refine AtL.done ?_
          refine At.seq ?_
          refine At.seq ?_
          refine At.region ?_
          refine AtL.move (.inl rfl) rfl rfl ?_
          refine AtL.not (.inl rfl) rfl rfl ?_
          refine AtL.done ?_
          refine At.cond rfl ?_ ?_
          · intro hc3
            have hc3 : ((lineF b q).2.2) = false := bnot_true hc3
            have hrd := ref_fail (b := b) (p := p) (by omega) (ref_h0 hcp (by rw [hhd, hdrs_none (line_not hc3)]))
            refine At.seq ?_
            refine At.region ?_
            refine AtL.build (cs := [.int .i64 0, .slice none 0 0, .slice none 0 0, .bool false]) tf_lay42 (.inl rfl) rfl rfl rfl ?_
            refine AtL.store (H' := [(b2, .cells #[.int .i64 (atoiV (subl ((lineF b p).1) 9 12)), .slice x.A x.l.length x.C, .slice none 0 0, .bool kp] 42 (0, 0))] :: x.s :: [(b1, .cells #[.int .i64 0, .slice none 0 0, .slice none 0 0, .bool false] 42 (0, 0))] :: H) 2 0 tf_sz42 (.inl rfl) rfl rfl rfl rfl rfl rfl rfl rfl rfl ?_
            refine AtL.assign (.inl rfl) rfl rfl ?_
            refine AtL.assign (.inl rfl) rfl rfl ?_
            refine AtL.done ?_
            refine At.nil ?_
            refine At.nil ?_
            exact At.retMP (vs := [.agg #[.int .i64 0, .slice none 0 0, .slice none 0 0, .bool false], .int .i64 0, .int .i64 4]) (H2 := [] :: [] :: H) [0, 1] 5 rfl rfl Tryz.func40 rfl ⟨⟨_, rfl, LoadsTo.agg (cs := [.int .i64 0, .slice none 0 0, .slice none 0 0, .bool false]) tf_agg42 rfl (cellsOwn 4 0 0 rfl rfl rfl)⟩, rfl, rfl, trivial⟩ (⟨RespV.zero, by rw [hrd], Sl.nil, Sl.nil, rfl, rfl, by rw [hrd]; rfl, rfl⟩)
          · intro hc3
            have hc3 : ((lineF b q).2.2) = true := bnot_false hc3
            obtain ⟨hm1, hm2, hcq⟩ := line_le (by simpa using hc3)
            have hstp := hdrs_some (size := sz) (keep := kp) (fs := x.l) hcq
            refine At.skip ?_
            refine At.seq ?_
            refine At.region ?_
            refine AtL.move (.inl rfl) rfl rfl ?_
            refine AtL.assign (.inl rfl) rfl rfl ?_
            refine AtL.done ?_
            refine At.seq ?_
            refine At.seq ?_
            refine At.region ?_
            refine AtL.move (.inl rfl) rfl rfl ?_
            refine AtL.eqs (a := (lineF b q).1) (b := []) (.inl rfl) rfl rfl rfl ?_
            refine AtL.done ?_
            refine At.cond rfl ?_ ?_
            · intro hc4
              have hc4 : (lineF b q).1 = [] := of_decide_eq_true hc4
              have hend := ref_end (sz := sz) (kp := kp) (fs := x.l) (n := (lineF b q).2.1) hcp (by omega) (by rw [hhd, hstp, if_pos hc4])
              refine At.exit rfl ?_
              refine At.seq ?_
              refine At.seq ?_
              refine At.region ?_
              refine AtL.move (.inl rfl) rfl rfl ?_
              refine AtL.lss (.inl rfl) rfl rfl rfl ?_
              refine AtL.move (.inl rfl) rfl rfl ?_
              refine AtL.join 7 (E' := [(125, .bool (decide (((sz : Int) < 0) ∨ (((b.length : Int) - ((lineF b q).2.1 : Int)) < sz)))), (0, .slice A b.length C), (1, .int .i64 (p : Int)), (4, .pointer (some ⟨b1, 0, none⟩)), (8, .int .i64 ((lineF b q).2.1 : Int)), (10, .pointer (some ⟨b2, 0, none⟩)), (11, .int .i64 sz)]) (H' := [(b2, .cells #[.int .i64 (atoiV (subl ((lineF b p).1) 9 12)), .slice x.A x.l.length x.C, .slice none 0 0, .bool kp] 42 (0, 0))] :: x.s :: [(b1, .cells #[.int .i64 0, .slice none 0 0, .slice none 0 0, .bool false] 42 (0, 0))] :: H) (fun J => ?_) ?_
              · refine AtL.split (t := 118) rfl ?_ ?_
                · intro hs118
                  have hs118 : (sz : Int) < 0 := of_decide_eq_true hs118
                  refine AtL.skipped rfl rfl rfl rfl rfl rfl ?_
                  refine AtL.skipped rfl rfl rfl rfl rfl rfl ?_
                  refine AtL.skipped rfl rfl rfl rfl rfl rfl ?_
                  refine AtL.skipped rfl rfl rfl rfl rfl rfl ?_
                  refine AtL.skipped rfl rfl rfl rfl rfl rfl ?_
                  refine AtL.skipped rfl rfl rfl rfl rfl rfl ?_
                  refine AtL.pickT (.inl rfl) rfl rfl rfl ?_
                  exact J _ (by exact ⟨(boolIs (by clear J; first | (simp [hs118]; done) | (simp_all; done) | grind)), rfl, rfl, rfl, rfl, rfl, rfl, trivial⟩)
                · intro hs118
                  have hs118 : ¬ ((sz : Int) < 0) := of_decide_eq_false hs118
                  refine AtL.move (.inr ⟨_, _, _, rfl, rfl, rfl, rfl⟩) rfl rfl ?_
                  refine AtL.move (.inr ⟨_, _, _, rfl, rfl, rfl, rfl⟩) rfl rfl ?_
                  refine AtL.lenL Tryz.underlying22 (.inr ⟨_, _, _, rfl, rfl, rfl, rfl⟩) rfl rfl ?_
                  refine AtL.move (.inr ⟨_, _, _, rfl, rfl, rfl, rfl⟩) rfl rfl ?_
                  refine AtL.sub (z := (b.length : Int) - ((lineF b q).2.1 : Int)) (.inr ⟨_, _, _, rfl, rfl, rfl, rfl⟩) rfl rfl rfl (w64 (by omega) (by omega)) ?_
                  refine AtL.gtr (.inr ⟨_, _, _, rfl, rfl, rfl, rfl⟩) rfl rfl rfl ?_
                  refine AtL.pickF (.inl rfl) rfl rfl rfl ?_
                  exact J _ (by exact ⟨(boolIs (by clear J; first | (simp [hs118]; done) | (simp_all; done) | grind)), rfl, rfl, rfl, rfl, rfl, rfl, trivial⟩)
              · skip
                refine AtL.done ?_
                refine At.cond rfl ?_ ?_
                · intro hc9
                  have hc9 : ((sz : Int) < 0) ∨ (((b.length : Int) - ((lineF b q).2.1 : Int)) < sz) := of_decide_eq_true hc9
                  have hrd := ref_fail (b := b) (p := p) (by omega) (by rw [hend, if_pos (by rw [List.length_drop]; omega)])
                  refine At.seq ?_
                  refine At.region ?_
                  refine AtL.build (cs := [.int .i64 0, .slice none 0 0, .slice none 0 0, .bool false]) tf_lay42 (.inl rfl) rfl rfl rfl ?_
                  refine AtL.store (H' := [(b2, .cells #[.int .i64 (atoiV (subl ((lineF b p).1) 9 12)), .slice x.A x.l.length x.C, .slice none 0 0, .bool kp] 42 (0, 0))] :: x.s :: [(b1, .cells #[.int .i64 0, .slice none 0 0, .slice none 0 0, .bool false] 42 (0, 0))] :: H) 2 0 tf_sz42 (.inl rfl) rfl rfl rfl rfl rfl rfl rfl rfl rfl ?_
                  refine AtL.assign (.inl rfl) rfl rfl ?_
                  refine AtL.assign (.inl rfl) rfl rfl ?_
                  refine AtL.done ?_
                  refine At.nil ?_
                  refine At.nil ?_
                  exact At.retMP (vs := [.agg #[.int .i64 0, .slice none 0 0, .slice none 0 0, .bool false], .int .i64 0, .int .i64 4]) (H2 := [] :: [] :: H) [0, 1] 5 rfl rfl Tryz.func40 rfl ⟨⟨_, rfl, LoadsTo.agg (cs := [.int .i64 0, .slice none 0 0, .slice none 0 0, .bool false]) tf_agg42 rfl (cellsOwn 4 0 0 rfl rfl rfl)⟩, rfl, rfl, trivial⟩ (⟨RespV.zero, by rw [hrd], Sl.nil, Sl.nil, rfl, rfl, by rw [hrd]; rfl, rfl⟩)
                · intro hc9
                  have hc9 : ¬ (((sz : Int) < 0) ∨ (((b.length : Int) - ((lineF b q).2.1 : Int)) < sz)) := of_decide_eq_false hc9
                  simp only [not_or] at hc9
                  have hrr : rreadF (b.drop p) = some (⟨atoiV (subl (lineF b p).1 9 12), x.l, subl b (lineF b q).2.1 ((lineF b q).2.1 + sz.toNat), kp⟩, (b.drop (lineF b q).2.1).drop sz.toNat) := by rw [hend, if_neg (by rw [List.length_drop]; omega)]; unfold subl; rw [show ((lineF b q).2.1 + sz.toNat) - (lineF b q).2.1 = sz.toNat by omega]
                  have htl : ((b.drop (lineF b q).2.1).drop sz.toNat).length = b.length - ((lineF b q).2.1 + sz.toNat) := by rw [List.length_drop, List.length_drop]; omega
                  have hml : ((lineF b q).2.1 + sz.toNat) ≤ b.length := by omega
                  have hsb : (subl b (lineF b q).2.1 ((lineF b q).2.1 + sz.toNat)).length = sz.toNat := by rw [subl_len hml]; omega
                  refine At.skip ?_
                  refine At.seq ?_
                  refine At.region ?_
                  refine AtL.buildSlice (cs := []) Tryz.underlying22 tf_zero5 tf_sz5 rfl rfl (.inl rfl) rfl rfl rfl ?_
                  intro b5
                  refine AtL.own1 tyB (l := ([] : List UInt8)) rfl rfl (by first | decide | simp) ?_
                  intro s6 o7
                  refine AtL.move (.inl rfl) rfl rfl ?_
                  refine AtL.move (.inl rfl) rfl rfl ?_
                  refine AtL.move (.inl rfl) rfl rfl ?_
                  refine AtL.move (.inl rfl) rfl rfl ?_
                  refine AtL.add (z := ((lineF b q).2.1 : Int) + sz) (.inl rfl) rfl rfl rfl (w64 (by omega) (by omega)) ?_
                  have hleo10 := Rd.le h
                  refine AtL.sliceR 4 ((lineF b q).2.1) ((lineF b q).2.1 + sz.toNat) C h (evBound_some rfl rfl) (evBound_some rfl (by omega)) rfl (by intro h; cases h) (by omega) (by omega) (by omega) (by omega) Tryz.underlying22 tf_sz5 (.inl rfl) rfl rfl ?_
                  clear hleo10
                  intro A8 C9 (o10 : Rd tyB w0 base H A8 C9 (subl b ((lineF b q).2.1) ((lineF b q).2.1 + sz.toNat)))
                  have hlo10 : (subl b ((lineF b q).2.1) ((lineF b q).2.1 + sz.toNat)).length = ((lineF b q).2.1 + sz.toNat) - ((lineF b q).2.1) := subl_len (by omega)
                  refine AtL.append (l := []) (news := subl b ((lineF b q).2.1) ((lineF b q).2.1 + sz.toNat)) 0 tf_el22 rfl o7 (Rd.skip 4 o10) (by first | omega | (simp only [List.length_append, List.length_cons, List.length_nil]; omega) | (simp; done) | (simp; omega)) (.inl rfl) rfl rfl rfl ?_
                  intro A11 C12 s13 o14
                  refine AtL.fieldAddrB tf_fo42_2 (.inl rfl) rfl rfl rfl ?_
                  refine AtL.store (H' := s13 :: [(b2, .cells #[.int .i64 (atoiV (subl ((lineF b p).1) 9 12)), .slice x.A x.l.length x.C, .slice A11 (subl b ((lineF b q).2.1) ((lineF b q).2.1 + sz.toNat)).length C12, .bool kp] 42 (0, 0))] :: x.s :: [(b1, .cells #[.int .i64 0, .slice none 0 0, .slice none 0 0, .bool false] 42 (0, 0))] :: H) 1 0 tf_sz22 (.inl rfl) rfl rfl rfl rfl rfl rfl rfl rfl rfl ?_
                  refine AtL.done ?_
                  refine At.seq ?_
                  refine At.region ?_
                  refine AtL.loadN (cs := [.int .i64 (atoiV (subl ((lineF b p).1) 9 12)), .slice x.A x.l.length x.C, .slice A11 (subl b ((lineF b q).2.1) ((lineF b q).2.1 + sz.toNat)).length C12, .bool kp]) tf_agg42 (.inl rfl) rfl rfl rfl (cellsOwn 1 0 0 rfl rfl rfl) ?_
                  refine AtL.call tf_body78 (.inl rfl) rfl rfl (rrwrite_okP (st := atoiV (subl ((lineF b p).1) 9 12)) (fs := x.l) (b := subl b ((lineF b q).2.1) ((lineF b q).2.1 + sz.toNat)) (kp := kp) (x.own.rd (i := 2) rfl) (o14.rd (i := 0) rfl) (fun f hf => by have h1 := hxb f hf; omega) T10) ?_
                  rintro _ _ ⟨⟨A15, C16, l17, s18, o19⟩, hx20, rfl, rfl⟩
                  obtain rfl : respL ⟨atoiV (subl ((lineF b p).1) 9 12), x.l, subl b ((lineF b q).2.1) ((lineF b q).2.1 + sz.toNat), kp⟩ = l17 := hx20.symm
                  refine AtL.move (.inl rfl) rfl rfl ?_
                  refine AtL.extract (.inl rfl) rfl rfl rfl ?_
                  refine AtL.extract (.inl rfl) rfl rfl rfl ?_
                  refine AtL.assign (.inl rfl) rfl rfl ?_
                  refine AtL.assign (.inl rfl) rfl rfl ?_
                  refine AtL.done ?_
                  refine At.seq ?_
                  refine At.seq ?_
                  rcases Decidable.em (respE ⟨atoiV (subl (lineF b p).1 9 12), x.l, subl b (lineF b q).2.1 ((lineF b q).2.1 + sz.toNat), kp⟩ = 0) with hre | hre
                  · skip
                    have hleo23 := Rd.le h
                    obtain ⟨A21, eA21⟩ : ∃ A21 : Option Addr, A21 = (if C = p then A else Option.map (fun a => a.add (p * tyB.sz)) A) := ⟨_, rfl⟩
                    obtain ⟨C22, eC22⟩ : ∃ C22 : Nat, C22 = C - p := ⟨_, rfl⟩
                    have o23 : Rd tyB w0 base H A21 C22 (subl b p ((lineF b q).2.1 + sz.toNat)) := by rw [eA21, eC22]; exact Rd.cut h (by omega) (by omega) (by omega) (by omega)
                    refine At.draw (es := []) (pv := [(0, .int .i64 (respE ⟨atoiV (subl ((lineF b p).1) 9 12), x.l, subl b ((lineF b q).2.1) ((lineF b q).2.1 + sz.toNat), kp⟩)), (1, .bool false), (2, .bool false), (3, .slice A15 (respL ⟨atoiV (subl ((lineF b p).1) 9 12), x.l, subl b ((lineF b q).2.1) ((lineF b q).2.1 + sz.toNat), kp⟩).length C16), (4, str (respL ⟨atoiV (subl ((lineF b p).1) 9 12), x.l, subl b ((lineF b q).2.1) ((lineF b q).2.1 + sz.toNat), kp⟩)), (5, .slice A b.length C), (6, .int .i64 (p : Int)), (7, .int .i64 ((lineF b q).2.1 : Int)), (8, .int .i64 sz), (9, .int .i64 (((lineF b q).2.1 : Int) + sz)), (10, .slice A21 (subl b p ((lineF b q).2.1 + sz.toNat)).length C22), (11, str (subl b p ((lineF b q).2.1 + sz.toNat))), (12, .bool (!(decide (respL ⟨atoiV (subl ((lineF b p).1) 9 12), x.l, subl b ((lineF b q).2.1) ((lineF b q).2.1 + sz.toNat), kp⟩ = subl b p ((lineF b q).2.1 + sz.toNat))))), (13, .bool (!(decide (respL ⟨atoiV (subl ((lineF b p).1) 9 12), x.l, subl b ((lineF b q).2.1) ((lineF b q).2.1 + sz.toNat), kp⟩ = subl b p ((lineF b q).2.1 + sz.toNat)))))]) tf_mixed (by kernel_rfl) (by kernel_rfl) (by kernel_rfl) ?_
                    refine ⟨⟨.inr ⟨_, rfl, rfl, .inl ⟨rfl, Do.move rfl⟩⟩, .inr ⟨_, rfl, rfl, .inl ⟨rfl, Do.asBool (Do.nei rfl rfl) (by rw [decide_eq_true hre]; rfl)⟩⟩, .inr ⟨_, rfl, rfl, .inl ⟨rfl, Do.move rfl⟩⟩, .inr ⟨_, rfl, rfl, .inl ⟨⟨_, _, _, rfl, rfl, rfl, rfl⟩, Do.move rfl⟩⟩, .inr ⟨_, rfl, rfl, .inl ⟨⟨_, _, _, rfl, rfl, rfl, rfl⟩, Do.strOf (o19.rd (i := 0) rfl) Tryz.underlying22 Tryz.underlying5 Tryz.underlying9 rfl⟩⟩, .inr ⟨_, rfl, rfl, .inl ⟨⟨_, _, _, rfl, rfl, rfl, rfl⟩, Do.move rfl⟩⟩, .inr ⟨_, rfl, rfl, .inl ⟨⟨_, _, _, rfl, rfl, rfl, rfl⟩, Do.move rfl⟩⟩, .inr ⟨_, rfl, rfl, .inl ⟨⟨_, _, _, rfl, rfl, rfl, rfl⟩, Do.move rfl⟩⟩, .inr ⟨_, rfl, rfl, .inl ⟨⟨_, _, _, rfl, rfl, rfl, rfl⟩, Do.move rfl⟩⟩, .inr ⟨_, rfl, rfl, .inl ⟨⟨_, _, _, rfl, rfl, rfl, rfl⟩, Do.add (z := ((lineF b q).2.1 : Int) + sz) rfl rfl (w64 (by omega) (by omega))⟩⟩, .inr ⟨_, rfl, rfl, .inl ⟨⟨_, _, _, rfl, rfl, rfl, rfl⟩, Do.sliceX_ (T := tyB) (l := b) p ((lineF b q).2.1 + sz.toNat) C (evBound_some rfl rfl) (evBound_some rfl (by omega)) rfl (by intro h; cases h) (by omega) (by omega) (Nat.le_refl _) Tryz.underlying22 tf_sz5 rfl eA21 (subl_len (l := b) (i := p) (j := ((lineF b q).2.1 + sz.toNat)) (by omega)) eC22⟩⟩, .inr ⟨_, rfl, rfl, .inl ⟨⟨_, _, _, rfl, rfl, rfl, rfl⟩, Do.strOf (Rd.skip 5 o23) Tryz.underlying22 Tryz.underlying5 Tryz.underlying9 rfl⟩⟩, .inr ⟨_, rfl, rfl, .inl ⟨⟨_, _, _, rfl, rfl, rfl, rfl⟩, Do.nes (a := respL ⟨atoiV (subl ((lineF b p).1) 9 12), x.l, subl b ((lineF b q).2.1) ((lineF b q).2.1 + sz.toNat), kp⟩) (b := subl b p ((lineF b q).2.1 + sz.toNat)) rfl rfl⟩⟩, .inr ⟨_, rfl, rfl, .inl ⟨rfl, Do.pickF rfl rfl⟩⟩, trivial⟩, by kernel_rfl, ?_⟩
                    refine At.mono (E' := [(4, .pointer (some ⟨b1, 0, none⟩)), (8, .int .i64 ((lineF b q).2.1 : Int)), (10, .pointer (some ⟨b2, 0, none⟩)), (11, .int .i64 sz), (154, .bool (!(decide (respL ⟨atoiV (subl ((lineF b p).1) 9 12), x.l, subl b ((lineF b q).2.1) ((lineF b q).2.1 + sz.toNat), kp⟩ = subl b p ((lineF b q).2.1 + sz.toNat)))))]) ⟨rfl, rfl, rfl, rfl, rfl, trivial⟩ ?_
                    refine At.cond rfl ?_ ?_
                    · intro hc10
                      have hc10 : ¬ (respL ⟨atoiV (subl ((lineF b p).1) 9 12), x.l, subl b ((lineF b q).2.1) ((lineF b q).2.1 + sz.toNat), kp⟩ = subl b p ((lineF b q).2.1 + sz.toNat)) := of_decide_eq_false (bnot_true hc10)
                      refine At.seq ?_
                      refine At.region ?_
                      refine AtL.build (cs := [.int .i64 0, .slice none 0 0, .slice none 0 0, .bool false]) tf_lay42 (.inl rfl) rfl rfl rfl ?_
                      refine AtL.store (H' := s18 :: s13 :: [(b2, .cells #[.int .i64 (atoiV (subl ((lineF b p).1) 9 12)), .slice x.A x.l.length x.C, .slice A11 (subl b ((lineF b q).2.1) ((lineF b q).2.1 + sz.toNat)).length C12, .bool kp] 42 (0, 0))] :: x.s :: [(b1, .cells #[.int .i64 0, .slice none 0 0, .slice none 0 0, .bool false] 42 (0, 0))] :: H) 4 0 tf_sz42 (.inl rfl) rfl rfl rfl rfl rfl rfl rfl rfl rfl ?_
                      refine AtL.assign (.inl rfl) rfl rfl ?_
                      refine AtL.assign (.inl rfl) rfl rfl ?_
                      refine AtL.done ?_
                      refine At.nil ?_
                      refine At.nil ?_
                      have hrd := ref_fail2 hrr (by omega) hml htl (.inr hc10)
                      exact At.retMP (vs := [.agg #[.int .i64 0, .slice none 0 0, .slice none 0 0, .bool false], .int .i64 0, .int .i64 4]) (H2 := [] :: [] :: H) [0, 1] 7 rfl rfl Tryz.func40 rfl ⟨⟨_, rfl, LoadsTo.agg (cs := [.int .i64 0, .slice none 0 0, .slice none 0 0, .bool false]) tf_agg42 rfl (cellsOwn 6 0 0 rfl rfl rfl)⟩, rfl, rfl, trivial⟩ (⟨RespV.zero, by rw [hrd], Sl.nil, Sl.nil, rfl, rfl, by rw [hrd]; rfl, rfl⟩)
                    · intro hc10
                      have hc10 : respL ⟨atoiV (subl ((lineF b p).1) 9 12), x.l, subl b ((lineF b q).2.1) ((lineF b q).2.1 + sz.toNat), kp⟩ = subl b p ((lineF b q).2.1 + sz.toNat) := of_decide_eq_true (bnot_false hc10)
                      refine At.skip ?_
                      refine At.seq ?_
                      refine At.region ?_
                      refine AtL.loadN (cs := [.int .i64 (atoiV (subl ((lineF b p).1) 9 12)), .slice x.A x.l.length x.C, .slice A11 (subl b ((lineF b q).2.1) ((lineF b q).2.1 + sz.toNat)).length C12, .bool kp]) tf_agg42 (.inl rfl) rfl rfl rfl (cellsOwn 2 0 0 rfl rfl rfl) ?_
                      refine AtL.move (.inl rfl) rfl rfl ?_
                      refine AtL.move (.inl rfl) rfl rfl ?_
                      refine AtL.add (z := ((lineF b q).2.1 : Int) + sz) (.inl rfl) rfl rfl rfl (w64 (by omega) (by omega)) ?_
                      refine AtL.store (H' := s18 :: s13 :: [(b2, .cells #[.int .i64 (atoiV (subl ((lineF b p).1) 9 12)), .slice x.A x.l.length x.C, .slice A11 (subl b ((lineF b q).2.1) ((lineF b q).2.1 + sz.toNat)).length C12, .bool kp] 42 (0, 0))] :: x.s :: [(b1, .cells #[.int .i64 (atoiV (subl ((lineF b p).1) 9 12)), .slice x.A x.l.length x.C, .slice A11 (subl b ((lineF b q).2.1) ((lineF b q).2.1 + sz.toNat)).length C12, .bool kp] 42 (0, 0))] :: H) 4 0 tf_sz42 (.inl rfl) rfl rfl rfl rfl rfl rfl rfl rfl rfl ?_
                      refine AtL.assign (.inl rfl) rfl rfl ?_
                      refine AtL.assign (.inl rfl) rfl rfl ?_
                      refine AtL.done ?_
                      have hrd := ref_succ hrr (by omega) hml htl (fun h => by rcases h with h | h; exact h hre; exact h hc10)
                      rw [show ((((lineF b q).2.1 + sz.toNat) : Nat) : Int) = ((lineF b q).2.1 : Int) + sz by omega] at hrd
                      exact At.retMP (vs := [.agg #[.int .i64 (atoiV (subl ((lineF b p).1) 9 12)), .slice x.A x.l.length x.C, .slice A11 (subl b ((lineF b q).2.1) ((lineF b q).2.1 + sz.toNat)).length C12, .bool kp], .int .i64 (((lineF b q).2.1 : Int) + sz), .int .i64 0]) (H2 := x.s :: s13 :: H) [3, 1] 5 rfl rfl Tryz.func40 rfl ⟨⟨_, rfl, LoadsTo.agg (cs := [.int .i64 (atoiV (subl ((lineF b p).1) 9 12)), .slice x.A x.l.length x.C, .slice A11 (subl b ((lineF b q).2.1) ((lineF b q).2.1 + sz.toNat)).length C12, .bool kp]) tf_agg42 rfl (cellsOwn 4 0 0 rfl rfl rfl)⟩, rfl, rfl, trivial⟩ (⟨⟨atoiV (subl (lineF b p).1 9 12), x.l, subl b (lineF b q).2.1 ((lineF b q).2.1 + sz.toNat), kp⟩, by rw [hrd], x, ⟨A11, C12, subl b ((lineF b q).2.1) ((lineF b q).2.1 + sz.toNat), s13, o14⟩, rfl, rfl, by rw [hrd]; rfl, rfl⟩)
                  · skip
                    refine At.draw (es := []) (pv := [(0, .int .i64 (respE ⟨atoiV (subl ((lineF b p).1) 9 12), x.l, subl b ((lineF b q).2.1) ((lineF b q).2.1 + sz.toNat), kp⟩)), (1, .bool true), (2, .bool true), (3, undef), (4, undef), (5, undef), (6, undef), (7, undef), (8, undef), (9, undef), (10, undef), (11, undef), (12, undef), (13, .bool true)]) tf_mixed (by kernel_rfl) (by kernel_rfl) (by kernel_rfl) ?_
                    refine ⟨⟨.inr ⟨_, rfl, rfl, .inl ⟨rfl, Do.move rfl⟩⟩, .inr ⟨_, rfl, rfl, .inl ⟨rfl, Do.asBool (Do.nei rfl rfl) (by rw [decide_eq_false hre]; rfl)⟩⟩, .inr ⟨_, rfl, rfl, .inl ⟨rfl, Do.move rfl⟩⟩, .inr ⟨_, rfl, rfl, .inr ⟨⟨_, _, _, rfl, rfl, rfl, rfl⟩, rfl⟩⟩, .inr ⟨_, rfl, rfl, .inr ⟨⟨_, _, _, rfl, rfl, rfl, rfl⟩, rfl⟩⟩, .inr ⟨_, rfl, rfl, .inr ⟨⟨_, _, _, rfl, rfl, rfl, rfl⟩, rfl⟩⟩, .inr ⟨_, rfl, rfl, .inr ⟨⟨_, _, _, rfl, rfl, rfl, rfl⟩, rfl⟩⟩, .inr ⟨_, rfl, rfl, .inr ⟨⟨_, _, _, rfl, rfl, rfl, rfl⟩, rfl⟩⟩, .inr ⟨_, rfl, rfl, .inr ⟨⟨_, _, _, rfl, rfl, rfl, rfl⟩, rfl⟩⟩, .inr ⟨_, rfl, rfl, .inr ⟨⟨_, _, _, rfl, rfl, rfl, rfl⟩, rfl⟩⟩, .inr ⟨_, rfl, rfl, .inr ⟨⟨_, _, _, rfl, rfl, rfl, rfl⟩, rfl⟩⟩, .inr ⟨_, rfl, rfl, .inr ⟨⟨_, _, _, rfl, rfl, rfl, rfl⟩, rfl⟩⟩, .inr ⟨_, rfl, rfl, .inr ⟨⟨_, _, _, rfl, rfl, rfl, rfl⟩, rfl⟩⟩, .inr ⟨_, rfl, rfl, .inl ⟨rfl, Do.pickT rfl rfl⟩⟩, trivial⟩, by kernel_rfl, ?_⟩
                    refine At.mono (E' := [(4, .pointer (some ⟨b1, 0, none⟩)), (8, .int .i64 ((lineF b q).2.1 : Int)), (10, .pointer (some ⟨b2, 0, none⟩)), (11, .int .i64 sz), (154, .bool true)]) ⟨rfl, rfl, rfl, rfl, rfl, trivial⟩ ?_
                    refine At.condT rfl ?_
                    refine At.seq ?_
                    refine At.region ?_
                    refine AtL.build (cs := [.int .i64 0, .slice none 0 0, .slice none 0 0, .bool false]) tf_lay42 (.inl rfl) rfl rfl rfl ?_
                    refine AtL.store (H' := s18 :: s13 :: [(b2, .cells #[.int .i64 (atoiV (subl ((lineF b p).1) 9 12)), .slice x.A x.l.length x.C, .slice A11 (subl b ((lineF b q).2.1) ((lineF b q).2.1 + sz.toNat)).length C12, .bool kp] 42 (0, 0))] :: x.s :: [(b1, .cells #[.int .i64 0, .slice none 0 0, .slice none 0 0, .bool false] 42 (0, 0))] :: H) 4 0 tf_sz42 (.inl rfl) rfl rfl rfl rfl rfl rfl rfl rfl rfl ?_
                    refine AtL.assign (.inl rfl) rfl rfl ?_
                    refine AtL.assign (.inl rfl) rfl rfl ?_
                    refine AtL.done ?_
                    refine At.nil ?_
                    refine At.nil ?_
                    have hrd := ref_fail2 hrr (by omega) hml htl (.inl hre)
                    exact At.retMP (vs := [.agg #[.int .i64 0, .slice none 0 0, .slice none 0 0, .bool false], .int .i64 0, .int .i64 4]) (H2 := [] :: [] :: H) [0, 1] 7 rfl rfl Tryz.func40 rfl ⟨⟨_, rfl, LoadsTo.agg (cs := [.int .i64 0, .slice none 0 0, .slice none 0 0, .bool false]) tf_agg42 rfl (cellsOwn 6 0 0 rfl rfl rfl)⟩, rfl, rfl, trivial⟩ (⟨RespV.zero, by rw [hrd], Sl.nil, Sl.nil, rfl, rfl, by rw [hrd]; rfl, rfl⟩)
            · intro hc4
              have hc4 : ¬ ((lineF b q).1 = []) := of_decide_eq_false hc4
              rw [if_neg hc4] at hstp
              have hl1 : 0 < (lineF b q).1.length := List.length_pos_iff.2 hc4
              refine At.skip ?_
              refine At.seq ?_
              refine At.region ?_
              refine AtL.assign (.inl rfl) rfl rfl ?_
              refine AtL.done ?_
              refine At.seq ?_
              refine At.block ?_
              refine At.loop (fun (j : Nat) => [(0, .slice A b.length C), (1, .int .i64 (p : Int)), (4, .pointer (some ⟨b1, 0, none⟩)), (8, .int .i64 ((lineF b q).2.1 : Int)), (10, .pointer (some ⟨b2, 0, none⟩)), (11, .int .i64 sz), (12, str ((lineF b q).1)), (15, .int .i64 (j : Int))]) (fun (j : Nat) => [(b2, .cells #[.int .i64 (atoiV (subl ((lineF b p).1) 9 12)), .slice x.A x.l.length x.C, .slice none 0 0, .bool kp] 42 (0, 0))] :: x.s :: [(b1, .cells #[.int .i64 0, .slice none 0 0, .slice none 0 0, .bool false] 42 (0, 0))] :: H) (fun (j : Nat) => j ≤ (lineF b q).1.length ∧ ∀ m, m < j → Lib.occAt (lineF b q).1 [58, 32] m = false) (fun (j : Nat) => (lineF b q).1.length - j) 0 (⟨Nat.zero_le _, fun m hm => absurd hm (by omega)⟩) ⟨rfl, rfl, rfl, rfl, rfl, rfl, rfl, rfl, trivial⟩ rfl ?_
              rintro j ⟨hj, hocc⟩ ihL2
              refine At.seq ?_
              refine At.seq ?_
              refine At.region ?_
              refine AtL.move (.inl rfl) rfl rfl ?_
              refine AtL.add (z := (j : Int) + 1) (.inl rfl) rfl rfl rfl (w64 (by omega) (by omega)) ?_
              refine AtL.move (.inl rfl) rfl rfl ?_
              refine AtL.lenS (l := (lineF b q).1) Tryz.underlying9 (.inl rfl) rfl rfl ?_
              refine AtL.lss (.inl rfl) rfl rfl rfl ?_
              refine AtL.move (.inl rfl) rfl rfl ?_
              refine AtL.join 12 (E' := [(82, .bool (decide ((((j : Int) + 1) < (((lineF b q).1).length : Int)) ∧ ((¬ (((((lineF b q).1).getD j 0).toNat : Int) = 58)) ∨ (¬ (((((lineF b q).1).getD (j + 1) 0).toNat : Int) = 32)))))), (0, .slice A b.length C), (1, .int .i64 (p : Int)), (4, .pointer (some ⟨b1, 0, none⟩)), (8, .int .i64 ((lineF b q).2.1 : Int)), (10, .pointer (some ⟨b2, 0, none⟩)), (11, .int .i64 sz), (12, str ((lineF b q).1)), (15, .int .i64 (j : Int))]) (H' := [(b2, .cells #[.int .i64 (atoiV (subl ((lineF b p).1) 9 12)), .slice x.A x.l.length x.C, .slice none 0 0, .bool kp] 42 (0, 0))] :: x.s :: [(b1, .cells #[.int .i64 0, .slice none 0 0, .slice none 0 0, .bool false] 42 (0, 0))] :: H) (fun J => ?_) ?_
              · refine AtL.split (t := 70) rfl ?_ ?_
                · intro hs70
                  have hs70 : ((j : Int) + 1) < (((lineF b q).1).length : Int) := of_decide_eq_true hs70
                  refine AtL.move (.inr ⟨_, _, _, rfl, rfl, rfl, rfl⟩) rfl rfl ?_
                  refine AtL.move (.inr ⟨_, _, _, rfl, rfl, rfl, rfl⟩) rfl rfl ?_
                  refine AtL.indexS (l := (lineF b q).1) j rfl (by omega) Tryz.underlying9 (.inr ⟨_, _, _, rfl, rfl, rfl, rfl⟩) rfl rfl rfl ?_
                  refine AtL.nei (.inr ⟨_, _, _, rfl, rfl, rfl, rfl⟩) rfl rfl rfl ?_
                  refine AtL.move (.inr ⟨_, _, _, rfl, rfl, rfl, rfl⟩) rfl rfl ?_
                  refine AtL.join 6 (E' := [(81, .bool (decide ((¬ (((((lineF b q).1).getD j 0).toNat : Int) = 58)) ∨ (¬ (((((lineF b q).1).getD (j + 1) 0).toNat : Int) = 32))))), (0, .slice A b.length C), (1, .int .i64 (p : Int)), (4, .pointer (some ⟨b1, 0, none⟩)), (8, .int .i64 ((lineF b q).2.1 : Int)), (10, .pointer (some ⟨b2, 0, none⟩)), (11, .int .i64 sz), (12, str ((lineF b q).1)), (15, .int .i64 (j : Int)), (70, .bool true)]) (H' := [(b2, .cells #[.int .i64 (atoiV (subl ((lineF b p).1) 9 12)), .slice x.A x.l.length x.C, .slice none 0 0, .bool kp] 42 (0, 0))] :: x.s :: [(b1, .cells #[.int .i64 0, .slice none 0 0, .slice none 0 0, .bool false] 42 (0, 0))] :: H) (fun J => ?_) ?_
                  · refine AtL.split (t := 75) rfl ?_ ?_
                    · intro hs75
                      have hs75 : ¬ (((((lineF b q).1).getD j 0).toNat : Int) = 58) := of_decide_eq_false (bnot_true hs75)
                      refine AtL.skipped rfl rfl rfl rfl rfl rfl ?_
                      refine AtL.skipped rfl rfl rfl rfl rfl rfl ?_
                      refine AtL.skipped rfl rfl rfl rfl rfl rfl ?_
                      refine AtL.skipped rfl rfl rfl rfl rfl rfl ?_
                      refine AtL.skipped rfl rfl rfl rfl rfl rfl ?_
                      refine AtL.pickT (.inr ⟨_, _, _, rfl, rfl, rfl, rfl⟩) rfl rfl rfl ?_
                      exact J _ (by exact ⟨(boolIs (by clear J; first | (simp [hs75]; done) | (simp_all; done) | grind)), rfl, rfl, rfl, rfl, rfl, rfl, rfl, rfl, rfl, trivial⟩)
                    · intro hs75
                      have hs75 : ((((lineF b q).1).getD j 0).toNat : Int) = 58 := of_decide_eq_true (bnot_false hs75)
                      refine AtL.move (.inr ⟨_, _, _, rfl, rfl, rfl, rfl⟩) rfl rfl ?_
                      refine AtL.move (.inr ⟨_, _, _, rfl, rfl, rfl, rfl⟩) rfl rfl ?_
                      refine AtL.add (z := (j : Int) + 1) (.inr ⟨_, _, _, rfl, rfl, rfl, rfl⟩) rfl rfl rfl (w64 (by omega) (by omega)) ?_
                      refine AtL.indexS (l := (lineF b q).1) (j + 1) rfl (by omega) Tryz.underlying9 (.inr ⟨_, _, _, rfl, rfl, rfl, rfl⟩) rfl rfl rfl ?_
                      refine AtL.nei (.inr ⟨_, _, _, rfl, rfl, rfl, rfl⟩) rfl rfl rfl ?_
                      refine AtL.pickF (.inr ⟨_, _, _, rfl, rfl, rfl, rfl⟩) rfl rfl rfl ?_
                      exact J _ (by exact ⟨(boolIs (by clear J; first | (simp [hs75]; done) | (simp_all; done) | grind)), rfl, rfl, rfl, rfl, rfl, rfl, rfl, rfl, rfl, trivial⟩)
                  · skip
                    refine AtL.pickT (.inl rfl) rfl rfl rfl ?_
                    exact J _ (by exact ⟨(boolIs (by clear J; first | (simp [hs70]; done) | (simp_all; done) | grind)), rfl, rfl, rfl, rfl, rfl, rfl, rfl, rfl, trivial⟩)
                · intro hs70
                  have hs70 : ¬ (((j : Int) + 1) < (((lineF b q).1).length : Int)) := of_decide_eq_false hs70
                  refine AtL.skipped rfl rfl rfl rfl rfl rfl ?_
                  refine AtL.skipped rfl rfl rfl rfl rfl rfl ?_
                  refine AtL.skipped rfl rfl rfl rfl rfl rfl ?_
                  refine AtL.skipped rfl rfl rfl rfl rfl rfl ?_
                  refine AtL.skipped rfl rfl rfl rfl rfl rfl ?_
                  refine AtL.skippedU rfl rfl rfl rfl rfl ?_
                  refine AtL.skippedU rfl rfl rfl rfl rfl ?_
                  refine AtL.skippedU rfl rfl rfl rfl rfl ?_
                  refine AtL.skippedU rfl rfl rfl rfl rfl ?_
                  refine AtL.skippedU rfl rfl rfl rfl rfl ?_
                  refine AtL.skipped rfl rfl rfl rfl rfl rfl ?_
                  refine AtL.pickF (.inl rfl) rfl rfl rfl ?_
                  exact J _ (by exact ⟨(boolIs (by clear J; first | (simp [hs70]; done) | (simp_all; done) | grind)), rfl, rfl, rfl, rfl, rfl, rfl, rfl, rfl, trivial⟩)
              · skip
                refine AtL.done ?_
                refine At.cond rfl ?_ ?_
                · intro hc5
                  have hc5 : (((j : Int) + 1) < (((lineF b q).1).length : Int)) ∧ ((¬ (((((lineF b q).1).getD j 0).toNat : Int) = 58)) ∨ (¬ (((((lineF b q).1).getD (j + 1) 0).toNat : Int) = 32))) := of_decide_eq_true hc5
                  refine At.skip ?_
                  refine At.block ?_
                  refine At.region ?_
                  refine AtL.move (.inl rfl) rfl rfl ?_
                  refine AtL.add (z := (j : Int) + 1) (.inl rfl) rfl rfl rfl (w64 (by omega) (by omega)) ?_
                  refine AtL.assign (.inl rfl) rfl rfl ?_
                  refine AtL.done ?_
                  refine At.inBlock ?_
                  refine ihL2 (j + 1) (⟨by omega, fun m hm => by rcases Nat.lt_or_ge m j with h1 | h1; exact hocc m h1; obtain rfl : m = j := (by omega); exact occ_no (by omega) hc5.2⟩) (by omega) _ ?_
                  exact ⟨rfl, rfl, rfl, rfl, rfl, rfl, rfl, (by first | rfl | exact slLen (by simp []) | exact intEq (by omega) | exact intEq (by simp []) | exact slLen (by simp []; omega)), trivial⟩
                · intro hc5
                  have hc5 : ¬ ((((j : Int) + 1) < (((lineF b q).1).length : Int)) ∧ ((¬ (((((lineF b q).1).getD j 0).toNat : Int) = 58)) ∨ (¬ (((((lineF b q).1).getD (j + 1) 0).toNat : Int) = 32)))) := of_decide_eq_false hc5
                  refine At.exit rfl ?_
                  refine At.seq ?_
                  refine At.seq ?_
                  refine At.region ?_
                  refine AtL.move (.inl rfl) rfl rfl ?_
                  refine AtL.add (z := (j : Int) + 1) (.inl rfl) rfl rfl rfl (w64 (by omega) (by omega)) ?_
                  refine AtL.move (.inl rfl) rfl rfl ?_
                  refine AtL.lenS (l := (lineF b q).1) Tryz.underlying9 (.inl rfl) rfl rfl ?_
                  refine AtL.geq (.inl rfl) rfl rfl rfl ?_
                  refine AtL.done ?_
                  refine At.cond rfl ?_ ?_
                  · intro hc6
                    have hc6 : (((lineF b q).1).length : Int) ≤ ((j : Int) + 1) := of_decide_eq_true hc6
                    have hrd := ref_fail (b := b) (p := p) (by omega) (ref_h0 hcp (by rw [hhd, hstp, if_pos (cutR_no (by omega) hocc)]))
                    refine At.seq ?_
                    refine At.region ?_
                    refine AtL.build (cs := [.int .i64 0, .slice none 0 0, .slice none 0 0, .bool false]) tf_lay42 (.inl rfl) rfl rfl rfl ?_
                    refine AtL.store (H' := [(b2, .cells #[.int .i64 (atoiV (subl ((lineF b p).1) 9 12)), .slice x.A x.l.length x.C, .slice none 0 0, .bool kp] 42 (0, 0))] :: x.s :: [(b1, .cells #[.int .i64 0, .slice none 0 0, .slice none 0 0, .bool false] 42 (0, 0))] :: H) 2 0 tf_sz42 (.inl rfl) rfl rfl rfl rfl rfl rfl rfl rfl rfl ?_
                    refine AtL.assign (.inl rfl) rfl rfl ?_
                    refine AtL.assign (.inl rfl) rfl rfl ?_
                    refine AtL.done ?_
                    refine At.nil ?_
                    refine At.nil ?_
                    exact At.retMP (vs := [.agg #[.int .i64 0, .slice none 0 0, .slice none 0 0, .bool false], .int .i64 0, .int .i64 4]) (H2 := [] :: [] :: H) [0, 1] 5 rfl rfl Tryz.func40 rfl ⟨⟨_, rfl, LoadsTo.agg (cs := [.int .i64 0, .slice none 0 0, .slice none 0 0, .bool false]) tf_agg42 rfl (cellsOwn 4 0 0 rfl rfl rfl)⟩, rfl, rfl, trivial⟩ (⟨RespV.zero, by rw [hrd], Sl.nil, Sl.nil, rfl, rfl, by rw [hrd]; rfl, rfl⟩)
                  · intro hc6
                    have hc6 : ¬ ((((lineF b q).1).length : Int) ≤ ((j : Int) + 1)) := of_decide_eq_false hc6
                    have hcu := cutR_yes (by omega) hocc (fun h => hc5 ⟨by omega, h⟩)
                    have hjl : (subl (lineF b q).1 0 j).length = j := by rw [subl_len (by omega)]; omega
                    have hjr : (subl (lineF b q).1 (j + 2) (lineF b q).1.length).length = (lineF b q).1.length - (j + 2) := by rw [subl_len (Nat.le_refl _)]
                    refine At.skip ?_
                    refine At.seq ?_
                    refine At.draw (es := []) (pv := [(0, str ((lineF b q).1)), (1, .int .i64 (j : Int)), (2, str (subl ((lineF b q).1) 0 j)), (3, str ((lineF b q).1)), (4, .int .i64 (j : Int)), (5, .int .i64 ((j : Int) + 2)), (6, str (subl ((lineF b q).1) (j + 2) ((lineF b q).1).length)), (7, str (subl ((lineF b q).1) 0 j)), (8, str (subl ((lineF b q).1) (j + 2) ((lineF b q).1).length))]) tf_mixed (by kernel_rfl) (by kernel_rfl) (by kernel_rfl) ?_
                    refine ⟨⟨.inr ⟨_, rfl, rfl, .inl ⟨rfl, Do.move rfl⟩⟩, .inr ⟨_, rfl, rfl, .inl ⟨rfl, Do.move rfl⟩⟩, .inr ⟨_, rfl, rfl, .inl ⟨rfl, Do.sliceS (l := (lineF b q).1) 0 j rfl (evBound_some rfl rfl) (by omega) (by omega) Tryz.underlying9 rfl⟩⟩, .inr ⟨_, rfl, rfl, .inl ⟨rfl, Do.move rfl⟩⟩, .inr ⟨_, rfl, rfl, .inl ⟨rfl, Do.move rfl⟩⟩, .inr ⟨_, rfl, rfl, .inl ⟨rfl, Do.add (z := (j : Int) + 2) rfl rfl (w64 (by omega) (by omega))⟩⟩, .inr ⟨_, rfl, rfl, .inl ⟨rfl, Do.sliceS (l := (lineF b q).1) (j + 2) ((lineF b q).1).length (evBound_some rfl rfl) rfl (by omega) (by omega) Tryz.underlying9 rfl⟩⟩, .inr ⟨_, rfl, rfl, .inl ⟨rfl, Do.assign rfl⟩⟩, .inr ⟨_, rfl, rfl, .inl ⟨rfl, Do.assign rfl⟩⟩, trivial⟩, by kernel_rfl, ?_⟩
                    refine At.mono (E' := [(0, .slice A b.length C), (1, .int .i64 (p : Int)), (4, .pointer (some ⟨b1, 0, none⟩)), (8, .int .i64 ((lineF b q).2.1 : Int)), (10, .pointer (some ⟨b2, 0, none⟩)), (11, .int .i64 sz), (16, str (subl ((lineF b q).1) 0 j)), (17, str (subl ((lineF b q).1) (j + 2) ((lineF b q).1).length))]) ⟨rfl, rfl, rfl, rfl, rfl, rfl, rfl, rfl, trivial⟩ ?_
                    refine At.seq ?_
                    refine At.region ?_
                    refine AtL.move (.inl rfl) rfl rfl ?_
                    refine AtL.eqs (a := subl ((lineF b q).1) 0 j) (b := [67, 111, 110, 116, 101, 110, 116, 45, 76, 101, 110, 103, 116, 104]) (.inl rfl) rfl rfl rfl ?_
                    refine AtL.done ?_
                    refine At.cond rfl ?_ ?_
                    · intro hc7
                      have hc7 : subl ((lineF b q).1) 0 j = [67, 111, 110, 116, 101, 110, 116, 45, 76, 101, 110, 103, 116, 104] := of_decide_eq_true hc7
                      have hc7q : subl (lineF b q).1 0 j = CL1 := hc7
                      refine At.region ?_
                      refine AtL.move (.inl rfl) rfl rfl ?_
                      refine AtL.call tf_body94 (.inl rfl) rfl rfl (atoi_all (s := subl ((lineF b q).1) (j + 2) ((lineF b q).1).length) (by first | omega | (rw [subl_len (by omega)]; omega)) ET) ?_
                      rintro _ _ ⟨⟨te24, ea25, rfl⟩, rfl⟩
                      refine AtL.move (.inl rfl) rfl rfl ?_
                      refine AtL.extract (.inl rfl) rfl rfl rfl ?_
                      refine AtL.extract (.inl rfl) rfl rfl rfl ?_
                      refine AtL.assign (.inl rfl) rfl rfl ?_
                      refine AtL.done ?_
                      refine At.inBlock ?_
                      refine ihL1 ((lineF b q).2.1) (atoiV (subl ((lineF b q).1) (j + 2) ((lineF b q).1).length)) kp x (⟨⟨by omega, by omega⟩, by first | omega | (simp; omega), by rw [hhd, hstp, hcu, if_neg (by simp), if_pos hc7q], hxb⟩) (by omega) _ ?_
                      exact ⟨rfl, rfl, rfl, (by first | rfl | exact slLen (by simp []) | exact intEq (by omega) | exact intEq (by simp []) | exact slLen (by simp []; omega)), rfl, (by first | rfl | exact slLen (by simp []) | exact intEq (by omega) | exact intEq (by simp []) | exact slLen (by simp []; omega)), trivial⟩
                    · intro hc7
                      have hc7 : ¬ (subl ((lineF b q).1) 0 j = [67, 111, 110, 116, 101, 110, 116, 45, 76, 101, 110, 103, 116, 104]) := of_decide_eq_false hc7
                      have hc7q : ¬ subl (lineF b q).1 0 j = CL1 := hc7
                      refine At.seq ?_
                      refine At.region ?_
                      refine AtL.move (.inl rfl) rfl rfl ?_
                      refine AtL.eqs (a := subl ((lineF b q).1) 0 j) (b := [67, 111, 110, 110, 101, 99, 116, 105, 111, 110]) (.inl rfl) rfl rfl rfl ?_
                      refine AtL.done ?_
                      refine At.cond rfl ?_ ?_
                      · intro hc8
                        have hc8 : subl ((lineF b q).1) 0 j = [67, 111, 110, 110, 101, 99, 116, 105, 111, 110] := of_decide_eq_true hc8
                        have hc8q : subl (lineF b q).1 0 j = CNM := hc8
                        refine At.region ?_
                        refine AtL.fieldAddrB tf_fo42_3 (.inl rfl) rfl rfl rfl ?_
                        refine AtL.store (H' := [(b2, .cells #[.int .i64 (atoiV (subl ((lineF b p).1) 9 12)), .slice x.A x.l.length x.C, .slice none 0 0, .bool false] 42 (0, 0))] :: x.s :: [(b1, .cells #[.int .i64 0, .slice none 0 0, .slice none 0 0, .bool false] 42 (0, 0))] :: H) 0 0 tf_sz4 (.inl rfl) rfl rfl rfl rfl rfl rfl rfl rfl rfl ?_
                        refine AtL.done ?_
                        refine At.inBlock ?_
                        refine ihL1 ((lineF b q).2.1) sz false x (⟨⟨by omega, by omega⟩, by first | omega | (simp; omega), by rw [hhd, hstp, hcu, if_neg (by simp), if_neg hc7q, if_pos hc8q], hxb⟩) (by omega) _ ?_
                        exact ⟨rfl, rfl, rfl, (by first | rfl | exact slLen (by simp []) | exact intEq (by omega) | exact intEq (by simp []) | exact slLen (by simp []; omega)), rfl, (by first | rfl | exact slLen (by simp []) | exact intEq (by omega) | exact intEq (by simp []) | exact slLen (by simp []; omega)), trivial⟩
                      · intro hc8
                        have hc8 : ¬ (subl ((lineF b q).1) 0 j = [67, 111, 110, 110, 101, 99, 116, 105, 111, 110]) := of_decide_eq_false hc8
                        have hc8q : ¬ subl (lineF b q).1 0 j = CNM := hc8
                        refine At.region ?_
                        refine AtL.fieldAddrB tf_fo42_1 (.inl rfl) rfl rfl rfl ?_
                        refine AtL.load tf_flat33 (.inl rfl) rfl rfl (Cell.own 0 0 rfl rfl rfl) ?_
                        refine AtL.move (.inl rfl) rfl rfl ?_
                        refine AtL.move (.inl rfl) rfl rfl ?_
                        refine AtL.build (cs := [str (subl ((lineF b q).1) 0 j), str (subl ((lineF b q).1) (j + 2) ((lineF b q).1).length)]) tf_lay52 (.inl rfl) rfl rfl rfl ?_
                        refine AtL.buildSlice (cs := [str (subl ((lineF b q).1) 0 j), str (subl ((lineF b q).1) (j + 2) ((lineF b q).1).length)]) Tryz.underlying33 tf_zero52 tf_sz52 rfl rfl (.inl rfl) rfl rfl rfl ?_
                        intro b26
                        refine AtL.own1 tyField (l := ([(subl ((lineF b q).1) 0 j, subl ((lineF b q).1) (j + 2) ((lineF b q).1).length)] : List (List UInt8 × List UInt8))) rfl rfl (by first | decide | simp) ?_
                        intro s27 o28
                        refine AtL.append (l := x.l) (news := [(subl ((lineF b q).1) 0 j, subl ((lineF b q).1) (j + 2) ((lineF b q).1).length)]) 2 tf_el33 rfl x.own (o28.rd (i := 0) rfl) (by first | omega | (simp only [List.length_append, List.length_cons, List.length_nil]; omega) | (simp; done) | (simp; omega)) (.inl rfl) rfl rfl rfl ?_
                        intro A29 C30 s31 o32
                        refine AtL.fieldAddrB tf_fo42_1 (.inl rfl) rfl rfl rfl ?_
                        refine AtL.store (H' := s27 :: [(b2, .cells #[.int .i64 (atoiV (subl ((lineF b p).1) 9 12)), .slice A29 (x.l ++ [(subl ((lineF b q).1) 0 j, subl ((lineF b q).1) (j + 2) ((lineF b q).1).length)]).length C30, .slice none 0 0, .bool kp] 42 (0, 0))] :: s31 :: [(b1, .cells #[.int .i64 0, .slice none 0 0, .slice none 0 0, .bool false] 42 (0, 0))] :: H) 1 0 tf_sz33 (.inl rfl) rfl rfl rfl rfl rfl rfl rfl rfl rfl ?_
                        refine AtL.done ?_
                        refine At.inBlock ?_
                        refine At.pick (H' := [(b2, .cells #[.int .i64 (atoiV (subl ((lineF b p).1) 9 12)), .slice A29 (x.l ++ [(subl ((lineF b q).1) 0 j, subl ((lineF b q).1) (j + 2) ((lineF b q).1).length)]).length C30, .slice none 0 0, .bool kp] 42 (0, 0))] :: s31 :: [(b1, .cells #[.int .i64 0, .slice none 0 0, .slice none 0 0, .bool false] 42 (0, 0))] :: H) [1, 2, 3] 4 rfl rfl ?_
                        refine ihL1 ((lineF b q).2.1) sz kp (⟨A29, C30, x.l ++ [(subl ((lineF b q).1) 0 j, subl ((lineF b q).1) (j + 2) ((lineF b q).1).length)], s31, o32⟩) (⟨⟨by omega, by omega⟩, by first | omega | (simp; omega), by rw [hhd, hstp, hcu, if_neg (by simp), if_neg hc7q, if_neg hc8q], fun f hf => by
                              rcases List.mem_append.1 hf with hf | hf
                              · exact hxb f hf
                              · simp only [List.mem_singleton] at hf; subst hf; exact ⟨by dsimp only; omega, by dsimp only; omega⟩⟩) (by omega) _ ?_
                        exact ⟨rfl, rfl, rfl, (by first | rfl | exact slLen (by simp []) | exact intEq (by omega) | exact intEq (by simp []) | exact slLen (by simp []; omega)), rfl, (by first | rfl | exact slLen (by simp []) | exact intEq (by omega) | exact intEq (by simp []) | exact slLen (by simp []; omega)), trivial⟩

end Go.Proofs.YtlfkoimkojbghaaGreatDoor
