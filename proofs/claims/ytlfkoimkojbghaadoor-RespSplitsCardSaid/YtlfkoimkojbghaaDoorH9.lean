/- Heads: lines. -/
import Derived.Test.YtlfkoimkojbghaaDoorH8
namespace Go.Proofs.YtlfkoimkojbghaaDoor
set_option linter.unusedVariables false
set_option linter.unusedSimpArgs false
set_option maxRecDepth 100000

theorem index_bd (l s : List UInt8) (h : 0 ≤ Lib.index l s) : (Lib.index l s).toNat + s.length ≤ l.length := by
  have := Lib.index_room l s h
  omega
/-- Before a separator, behind it. -/
def cutB (l s : List UInt8) : List UInt8 × List UInt8 × Bool := if 0 ≤ Lib.index l s then (subl l 0 (Lib.index l s).toNat, subl l ((Lib.index l s).toNat + s.length) l.length, true) else (l, [], false)

set_option maxHeartbeats 400000 in
theorem bcut_ok {w0 : World} {base : Nat} {H : List Seg} {A Aq : Option Addr} {C Cq : Nat} {l s : List UInt8} (n : Nat) (hn : Rd tyB w0 base (H.drop n) A C l) (hq : Rd tyB w0 base H Aq Cq s) (hl : l.length < 4294967281) (hs : 2 ≤ s.length) (T : Tabs w0 base) :
    SCalls Tryd.prog 103 [.slice A l.length C, .slice Aq s.length Cq] w0 base (H) (fun v H' => ∃ A1 C1 A2 C2, v = .tuple #[.slice A1 (cutB l s).1.length C1, .slice A2 (cutB l s).2.1.length C2, .bool (cutB l s).2.2] ∧ Rd tyB w0 base (H.drop n) A1 C1 (cutB l s).1 ∧ Rd tyB w0 base (H.drop n) A2 C2 (cutB l s).2.1 ∧ H' = H) := by
  have h := Rd.skip n hn
  have hcap := h.cap
  have hle := h.le
  have hcap2 := hq.cap
  have hle2 := hq.le
  refine SCalls.of_walk (n := 23) Tryd.func103 rfl rfl rfl fun cs => ?_
  refine At.seq ?_
  refine At.region ?_
  refine AtL.assign (.inl rfl) rfl rfl ?_
  refine AtL.assign (.inl rfl) rfl rfl ?_
  refine AtL.assign (.inl rfl) rfl rfl ?_
  refine AtL.done ?_
  refine At.seq ?_
  refine At.seq ?_
  refine At.region ?_
  refine AtL.move (.inl rfl) rfl rfl ?_
  refine AtL.move (.inl rfl) rfl rfl ?_
  refine AtL.call tf_body131 (.inl rfl) rfl rfl (index_ok (l := l) (l2 := s) h hq (by omega) hs T) ?_
  rintro _ _ ⟨rfl, hHq⟩
  obtain rfl := hHq.symm
  refine AtL.assign (.inl rfl) rfl rfl ?_
  refine AtL.done ?_
  refine At.seq ?_
  refine At.region ?_
  refine AtL.move (.inl rfl) rfl rfl ?_
  refine AtL.geq (.inl rfl) rfl rfl rfl ?_
  refine AtL.done ?_
  refine At.cond rfl ?_ ?_
  · intro hc1
    have hc1 : 0 ≤ (Lib.index l s : Int) := of_decide_eq_true hc1
    have hbd := index_bd l s hc1
    refine At.seq ?_
    have hleo3 := Rd.le h
    obtain ⟨A1, eA1⟩ : ∃ A1 : Option Addr, A1 = (if C = 0 then A else Option.map (fun a => a.add (0 * tyB.sz)) A) := ⟨_, rfl⟩
    obtain ⟨C2, eC2⟩ : ∃ C2 : Nat, C2 = C - 0 := ⟨_, rfl⟩
    have o3 : Rd tyB w0 base H A1 C2 (subl l 0 ((Lib.index l s).toNat)) := by rw [eA1, eC2]; exact Rd.cut h (Nat.zero_le _) (by omega) (by omega) (by omega)
    have hleo6 := Rd.le h
    obtain ⟨A4, eA4⟩ : ∃ A4 : Option Addr, A4 = (if C = ((Lib.index l s).toNat + s.length) then A else Option.map (fun a => a.add (((Lib.index l s).toNat + s.length) * tyB.sz)) A) := ⟨_, rfl⟩
    obtain ⟨C5, eC5⟩ : ∃ C5 : Nat, C5 = C - ((Lib.index l s).toNat + s.length) := ⟨_, rfl⟩
    have o6 : Rd tyB w0 base H A4 C5 (subl l ((Lib.index l s).toNat + s.length) l.length) := by rw [eA4, eC5]; exact Rd.cut h (by omega) (Nat.le_refl _) (by omega) (by omega)
    refine At.draw (es := []) (pv := [(0, .slice A l.length C), (1, .int .i64 (Lib.index l s)), (2, .slice A1 (subl l 0 ((Lib.index l s).toNat)).length C2), (3, .slice A l.length C), (4, .int .i64 (Lib.index l s)), (5, .slice Aq s.length Cq), (6, .int .i64 (s.length : Int)), (7, .int .i64 (Lib.index l s + (s.length : Int))), (8, .slice A4 (subl l ((Lib.index l s).toNat + s.length) l.length).length C5), (9, .slice A1 (subl l 0 ((Lib.index l s).toNat)).length C2), (10, .slice A4 (subl l ((Lib.index l s).toNat + s.length) l.length).length C5), (11, .bool true)]) tf_mixed (by kernel_rfl) (by kernel_rfl) (by kernel_rfl) ?_
    refine ⟨⟨.inr ⟨_, rfl, rfl, .inl ⟨rfl, Do.move rfl⟩⟩, .inr ⟨_, rfl, rfl, .inl ⟨rfl, Do.move rfl⟩⟩, .inr ⟨_, rfl, rfl, .inl ⟨rfl, Do.sliceX_ (T := tyB) (l := l) 0 ((Lib.index l s).toNat) C rfl (evBound_some rfl (by omega)) rfl (by intro h; cases h) (Nat.zero_le _) (by omega) (Nat.le_refl _) Tryd.underlying25 tf_sz5 rfl eA1 (subl_len (l := l) (i := 0) (j := ((Lib.index l s).toNat)) (by omega)) eC2⟩⟩, .inr ⟨_, rfl, rfl, .inl ⟨rfl, Do.move rfl⟩⟩, .inr ⟨_, rfl, rfl, .inl ⟨rfl, Do.move rfl⟩⟩, .inr ⟨_, rfl, rfl, .inl ⟨rfl, Do.move rfl⟩⟩, .inr ⟨_, rfl, rfl, .inl ⟨rfl, Do.lenL Tryd.underlying25 rfl⟩⟩, .inr ⟨_, rfl, rfl, .inl ⟨rfl, Do.add (z := Lib.index l s + (s.length : Int)) rfl rfl (w64 (by omega) (by omega))⟩⟩, .inr ⟨_, rfl, rfl, .inl ⟨rfl, Do.sliceX_ (T := tyB) (l := l) ((Lib.index l s).toNat + s.length) l.length C (evBound_some rfl (by omega)) rfl rfl (by intro h; cases h) (by omega) (by omega) (Nat.le_refl _) Tryd.underlying25 tf_sz5 rfl eA4 (subl_len (l := l) (i := ((Lib.index l s).toNat + s.length)) (j := l.length) (Nat.le_refl _)) eC5⟩⟩, .inr ⟨_, rfl, rfl, .inl ⟨rfl, Do.assign rfl⟩⟩, .inr ⟨_, rfl, rfl, .inl ⟨rfl, Do.assign rfl⟩⟩, .inr ⟨_, rfl, rfl, .inl ⟨rfl, Do.assign rfl⟩⟩, trivial⟩, by kernel_rfl, ?_⟩
    refine At.mono (E' := [(4, .slice A1 (subl l 0 ((Lib.index l s).toNat)).length C2), (5, .slice A4 (subl l ((Lib.index l s).toNat + s.length) l.length).length C5), (6, .bool true)]) ⟨rfl, rfl, rfl, trivial⟩ ?_
    exact At.ret Tryd.func103 rfl rfl (⟨A1, C2, A4, C5, by rw [cutB, if_pos hc1]; rfl, by rw [cutB, if_pos hc1, eA1, eC2]; exact Rd.cut hn (Nat.zero_le _) (by omega) (by omega) (Nat.le_refl _), by rw [cutB, if_pos hc1, eA4, eC5]; exact Rd.cut hn (by omega) (Nat.le_refl _) (by omega) (Nat.le_refl _), rfl⟩)
  · intro hc1
    have hc1 : ¬ (0 ≤ (Lib.index l s : Int)) := of_decide_eq_false hc1
    refine At.skip ?_
    refine At.seq ?_
    refine At.region ?_
    refine AtL.move (.inl rfl) rfl rfl ?_
    refine AtL.assign (.inl rfl) rfl rfl ?_
    refine AtL.assign (.inl rfl) rfl rfl ?_
    refine AtL.assign (.inl rfl) rfl rfl ?_
    refine AtL.done ?_
    exact At.ret Tryd.func103 rfl rfl (⟨A, C, none, 0, by rw [cutB, if_neg hc1]; rfl, by rw [cutB, if_neg hc1]; exact hn, by rw [cutB, if_neg hc1]; exact Rd.nil_, rfl⟩)

def CRLF : List UInt8 := [13, 10]
theorem cutCR_cutB (b : List UInt8) : cutCR b = if (cutB b [13, 10]).2.2 = true then some ((cutB b [13, 10]).1, (cutB b [13, 10]).2.1) else none := by
  have hg := Lib.index_ge b [13, 10]
  rw [cutCR_index]
  by_cases h : Lib.index b [13, 10] = -1
  · have e : cutB b [13, 10] = (b, [], false) := by rw [cutB, if_neg (by omega)]
    rw [if_pos h, e]; rfl
  · have e : cutB b [13, 10] = (subl b 0 (Lib.index b [13, 10]).toNat, subl b ((Lib.index b [13, 10]).toNat + 2) b.length, true) := by rw [cutB, if_pos (by omega)]; rfl
    rw [if_neg h, e]
    simp only [if_true, subl]
    simp only [Nat.sub_zero, List.drop_zero]
    rw [List.take_of_length_le (l := b.drop _) (by simp)]
theorem cutB_len {b : List UInt8} (h : (cutB b [13, 10]).2.2 = true) : (cutB b [13, 10]).1.length + (cutB b [13, 10]).2.1.length + 2 = b.length := by
  have := cutCR_len (b := b) (l := (cutB b [13, 10]).1) (r := (cutB b [13, 10]).2.1) (by rw [cutCR_cutB, if_pos h])
  have := congrArg List.length this
  simp at this
  omega
theorem linesF_cut (b : List UInt8) : linesF b = if (cutB b [13, 10]).2.2 = false ∨ (cutB b [13, 10]).1.any crlf = true then none else if (cutB b [13, 10]).1 = [] then (if (cutB b [13, 10]).2.1 = [] then some [] else none) else (linesF (cutB b [13, 10]).2.1).map ((cutB b [13, 10]).1 :: ·) := by
  have hc := cutCR_cutB b
  cases hb : (cutB b [13, 10]).2.2 with
  | false =>
    rw [hb] at hc
    rw [if_pos (.inl rfl), linesF]
    split
    · rfl
    · rename_i l r h; rw [hc] at h; simp at h
  | true =>
    rw [hb, if_pos rfl] at hc
    rw [linesF]
    split
    · rename_i h; rw [hc] at h; cases h
    · rename_i l r h
      rw [hc] at h
      simp only [Option.some.injEq, Prod.mk.injEq] at h
      obtain ⟨h3, h4⟩ := h
      rw [← h3, ← h4]
      by_cases h2 : (cutB b [13, 10]).1.any crlf = true
      · rw [if_pos h2, if_pos (.inr h2)]
      · have h5 : ¬ (true = false ∨ (cutB b [13, 10]).1.any crlf = true) := by simpa using h2
        rw [if_neg h2, if_neg h5]

set_option maxHeartbeats 400000 in
theorem lines_ok {w0 : World} {base : Nat} {H : List Seg} {A : Option Addr} {C : Nat} {b : List UInt8} (h : Rd tyB w0 base H A C b) (hl : b.length ≤ 4294967280) (T : Tabs w0 base) :
    SCalls Tryd.prog 73 [.slice A b.length C] w0 base (H) (fun v H' => ∃ x : Sl tyS 9, v = .tuple #[.slice x.A x.l.length x.C, .bool (linesF b).isSome] ∧ (∀ ls, linesF b = some ls → x.l = ls) ∧ H' = x.s :: H) := by
  refine SCalls.of_walk (n := 35) Tryd.func73 rfl rfl rfl fun cs => ?_
  refine At.seq ?_
  refine At.region ?_
  refine AtL.assign (.inl rfl) rfl rfl ?_
  refine AtL.assign (.inl rfl) rfl rfl ?_
  refine AtL.done ?_
  refine At.seq ?_
  refine At.region ?_
  refine AtL.assign (.inl rfl) rfl rfl ?_
  refine AtL.done ?_
  refine At.block ?_
  refine At.nil ?_
  refine At.loop4 (fun (Ab : Option Addr) (Cb : Nat) (bb : List UInt8) (x : Sl tyS 9) => [(0, .slice Ab bb.length Cb), (4, .slice x.A x.l.length x.C)]) (fun (Ab : Option Addr) (Cb : Nat) (bb : List UInt8) (x : Sl tyS 9) => x.s :: H) (fun (Ab : Option Addr) (Cb : Nat) (bb : List UInt8) (x : Sl tyS 9) => Rd tyB w0 base H Ab Cb bb ∧ x.l.length + bb.length ≤ b.length ∧ linesF b = (linesF bb).map (x.l ++ ·)) (fun (Ab : Option Addr) (Cb : Nat) (bb : List UInt8) (x : Sl tyS 9) => bb.length) A C b Sl.nil (⟨h, by simp [Sl.nil], by simp [Sl.nil]⟩) ⟨rfl, rfl, trivial⟩ rfl ?_
  rintro Ab Cb bb x ⟨hb, hlen, hlb⟩ ihL1
  have hlc := linesF_cut bb
  have hcap := Own.cap_le x.own
  refine At.block ?_
  refine At.seq ?_
  refine At.region ?_
  refine AtL.move (.inl rfl) rfl rfl ?_
  refine AtL.buildSlice (cs := [.int .u8 13, .int .u8 10]) Tryd.underlying25 tf_zero5 tf_sz5 rfl rfl (.inl rfl) rfl rfl rfl ?_
  intro b1
  refine AtL.convSl1 (l := [13, 10]) 0 Tryd.underlying25 Tryd.underlying5 rfl rfl rfl (by decide) (.inl rfl) rfl rfl ?_
  intro s2 o3
  refine AtL.call tf_body103 (.inl rfl) rfl rfl (bcut_ok (l := bb) (s := [13, 10]) 2 hb (o3.rd (i := 0) rfl) (by omega) (by decide) T) ?_
  rintro _ _ ⟨A4, C5, A6, C7, rfl, h8, h9, rfl⟩
  refine AtL.move (.inl rfl) rfl rfl ?_
  refine AtL.extract (.inl rfl) rfl rfl rfl ?_
  refine AtL.extract (.inl rfl) rfl rfl rfl ?_
  refine AtL.extract (.inl rfl) rfl rfl rfl ?_
  refine AtL.assign (.inl rfl) rfl rfl ?_
  refine AtL.assign (.inl rfl) rfl rfl ?_
  refine AtL.assign (.inl rfl) rfl rfl ?_
  refine AtL.done ?_
  refine At.seq ?_
  refine At.seq ?_
  refine At.region ?_
  refine AtL.move (.inl rfl) rfl rfl ?_
  refine AtL.not (.inl rfl) rfl rfl ?_
  refine AtL.move (.inl rfl) rfl rfl ?_
  refine AtL.join 3 (E' := [(21, .bool (decide ((((cutB bb [13, 10]).2.2) = false) ∨ ((((cutB bb [13, 10]).1).any crlf) = true)))), (4, .slice x.A x.l.length x.C), (5, .slice A4 ((cutB bb [13, 10]).1).length C5), (6, .slice A6 ((cutB bb [13, 10]).2.1).length C7)]) (H' := s2 :: x.s :: H) (fun J => ?_) ?_
  · refine AtL.split (t := 18) rfl ?_ ?_
    · intro hs18
      have hs18 : ((cutB bb [13, 10]).2.2) = false := bnot_true hs18
      refine AtL.skipped rfl rfl rfl rfl rfl rfl ?_
      refine AtL.skipped rfl rfl rfl rfl rfl rfl ?_
      refine AtL.pickT (.inl rfl) rfl rfl rfl ?_
      exact J _ (by exact ⟨(boolIs (by clear J; first | (simp [hs18]; done) | (simp_all; done) | grind)), rfl, rfl, rfl, trivial⟩)
    · intro hs18
      have hs18 : ((cutB bb [13, 10]).2.2) = true := bnot_false hs18
      refine AtL.move (.inr ⟨_, _, _, rfl, rfl, rfl, rfl⟩) rfl rfl ?_
      refine AtL.call tf_body104 (.inr ⟨_, _, _, rfl, rfl, rfl, rfl⟩) rfl rfl (containsany_ok (l := (cutB bb [13, 10]).1) (Rd.skip 2 h8) T) ?_
      rintro _ _ ⟨rfl, rfl⟩
      refine AtL.pickF (.inl rfl) rfl rfl rfl ?_
      exact J _ (by exact ⟨(boolIs (by clear J; first | (simp [hs18]; done) | (simp_all; done) | grind)), rfl, rfl, rfl, trivial⟩)
  · skip
    refine AtL.done ?_
    refine At.cond rfl ?_ ?_
    · intro hc1
      have hc1 : (((cutB bb [13, 10]).2.2) = false) ∨ ((((cutB bb [13, 10]).1).any crlf) = true) := of_decide_eq_true hc1
      refine At.seq ?_
      refine At.region ?_
      refine AtL.assign (.inl rfl) rfl rfl ?_
      refine AtL.assign (.inl rfl) rfl rfl ?_
      refine AtL.done ?_
      refine At.nil ?_
      refine At.pick (H' := [] :: H) [0] 3 rfl rfl ?_
      have hn : linesF b = none := by rw [hlb, hlc, if_pos (by simpa using hc1)]; rfl
      exact At.ret Tryd.func73 rfl rfl (⟨Sl.nil, by rw [hn]; rfl, fun ls h => (by rw [hn] at h; cases h), rfl⟩)
    · intro hc1
      have hc1 : ¬ ((((cutB bb [13, 10]).2.2) = false) ∨ ((((cutB bb [13, 10]).1).any crlf) = true)) := of_decide_eq_false hc1
      have his : (cutB bb [13, 10]).2.2 = true := by simp only [not_or] at hc1; simpa using hc1.1
      have hbl := cutB_len his
      have hne : (cutB bb [13, 10]).1.any crlf = false := by simp only [not_or] at hc1; simpa using hc1.2
      refine At.skip ?_
      refine At.seq ?_
      refine At.seq ?_
      refine At.region ?_
      refine AtL.move (.inl rfl) rfl rfl ?_
      refine AtL.lenL Tryd.underlying25 (.inl rfl) rfl rfl ?_
      refine AtL.eqi (.inl rfl) rfl rfl rfl ?_
      refine AtL.done ?_
      refine At.cond rfl ?_ ?_
      · intro hc2
        have hc2 : (((cutB bb [13, 10]).1).length : Int) = 0 := of_decide_eq_true hc2
        refine At.seq ?_
        refine At.region ?_
        refine AtL.move (.inl rfl) rfl rfl ?_
        refine AtL.move (.inl rfl) rfl rfl ?_
        refine AtL.lenL Tryd.underlying25 (.inl rfl) rfl rfl ?_
        refine AtL.eqi (.inl rfl) rfl rfl rfl ?_
        refine AtL.assign (.inl rfl) rfl rfl ?_
        refine AtL.assign (.inl rfl) rfl rfl ?_
        refine AtL.done ?_
        refine At.pick (H' := x.s :: H) [1] 2 rfl rfl ?_
        have hl0 : (cutB bb [13, 10]).1 = [] := List.eq_nil_of_length_eq_zero (by omega)
        have hs : linesF b = if (cutB bb [13, 10]).2.1 = [] then some x.l else none := by rw [hlb, hlc, if_neg (by rw [his, hne]; simp), if_pos hl0]; split <;> simp
        exact At.ret Tryd.func73 rfl rfl (⟨x, by rw [hs]; split <;> rename_i h3 <;> simp [h3, oneOf], fun ls h => (by rw [hs] at h; split at h; exact Option.some.inj h; cases h), rfl⟩)
      · intro hc2
        have hc2 : ¬ ((((cutB bb [13, 10]).1).length : Int) = 0) := of_decide_eq_false hc2
        have hc2 : ¬ (cutB bb [13, 10]).1 = [] := fun h0 => hc2 (by rw [h0]; rfl)
        refine At.skip ?_
        refine At.seq ?_
        refine At.region ?_
        refine AtL.move (.inl rfl) rfl rfl ?_
        refine AtL.move (.inl rfl) rfl rfl ?_
        refine AtL.strOf (Rd.skip 2 h8) Tryd.underlying25 Tryd.underlying5 Tryd.underlying9 (.inl rfl) rfl rfl ?_
        refine AtL.buildSlice (cs := [str ((cutB bb [13, 10]).1)]) Tryd.underlying38 tf_zero9 tf_sz9 rfl rfl (.inl rfl) rfl rfl rfl ?_
        intro b10
        refine AtL.own1 tyS (l := ([(cutB bb [13, 10]).1] : List (List UInt8))) rfl rfl (by first | decide | simp) ?_
        intro s11 o12
        refine AtL.append (l := x.l) (news := [(cutB bb [13, 10]).1]) 2 tf_el38 rfl x.own (o12.rd (i := 0) rfl) (by first | omega | (simp only [List.length_append, List.length_cons, List.length_nil]; omega) | (simp; done) | (simp; omega)) (.inl rfl) rfl rfl rfl ?_
        intro A13 C14 s15 o16
        refine AtL.assign (.inl rfl) rfl rfl ?_
        refine AtL.done ?_
        refine At.region ?_
        refine AtL.move (.inl rfl) rfl rfl ?_
        refine AtL.assign (.inl rfl) rfl rfl ?_
        refine AtL.done ?_
        refine At.inBlock ?_
        refine At.pick (H' := s15 :: H) [2] 3 rfl rfl ?_
        refine ihL1 A6 C7 ((cutB bb [13, 10]).2.1) (⟨A13, C14, x.l ++ ([(cutB bb [13, 10]).1]), s15, o16⟩) (⟨h9, by simp; omega, by rw [hlb, hlc, if_neg (by simpa using hc1), if_neg hc2, Option.map_map]; congr 1; funext q; simp⟩) (by omega) _ ?_
        exact ⟨(by first | rfl | exact slLen (by simp []) | exact intEq (by omega) | exact intEq (by simp []) | exact slLen (by simp []; omega)), (by first | rfl | exact slLen (by simp []) | exact intEq (by omega) | exact intEq (by simp []) | exact slLen (by simp []; omega)), trivial⟩

end Go.Proofs.YtlfkoimkojbghaaDoor
