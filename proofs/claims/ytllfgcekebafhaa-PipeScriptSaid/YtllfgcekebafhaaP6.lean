/- The contracts of Send. -/
import Derived.Test.YtllfgcekebafhaaP5
namespace Go.Proofs.Ytllfgcekebafhaa
set_option linter.unusedVariables false
set_option linter.unusedSimpArgs false
set_option maxRecDepth 100000

def sentF (se gr sh : Bool) (l : List UInt8) : Bool := if se = true ∧ sh = false ∧ 0 < l.length then true else gr
theorem recs_nil : recs [] = [] := by rw [recs, if_pos rfl]
theorem recs_more {l : List UInt8} (h : 0 < l.length) : recs l = recB 2 (l.take 1024) ++ recs (l.drop 1024) := by
  rw [recs, if_neg (by intro h2; subst h2; simp at h)]
theorem recB_len (k : Int) (l : List UInt8) : (recB k l).length = 3 + l.length := by simp [recB]; omega
theorem recs_len (l : List UInt8) : (recs l).length ≤ 4 * l.length := by
  induction l using (measure List.length).wf.induction with
  | _ l ih =>
    by_cases h : 0 < l.length
    · rw [recs_more h, List.length_append, recB_len]
      have := ih (l.drop 1024) (show (List.drop _ _).length < _ by simp; omega)
      simp at this ⊢
      omega
    · have : l = [] := List.eq_nil_of_length_eq_zero (by omega)
      subst this
      rw [recs_nil]; simp
theorem recs_cut {x y l : List UInt8} (n : Nat) (hn : n = min l.length 1024) (h : 0 < l.length) (hI : x ++ recs l = y) : (x ++ recB 2 (subl l 0 n)) ++ recs (subl l n l.length) = y := by
  rw [← hI, recs_more h, subl_to, subl_drop, List.append_assoc]
  by_cases h2 : 1024 ≤ l.length
  · rw [show n = 1024 by omega]
  · rw [show n = l.length by omega, List.take_of_length_le (Nat.le_refl _), List.take_of_length_le (show l.length ≤ 1024 by omega), List.drop_eq_nil_of_le (Nat.le_refl _), List.drop_eq_nil_of_le (show l.length ≤ 1024 by omega)]

set_option maxHeartbeats 400000 in
theorem rsend_ok {w0 : World} {base : Nat} {H : List Seg} {b : Nat} {vb : Value} {se hello out off gr sh : Bool} {A : Option Addr} {C : Nat} {l : List UInt8} (h : Rd tyB w0 base H A C l) (hl : l.length ≤ 140737488355) :
    SCalls Try.prog 22 [.pointer (some ⟨b, 0, none⟩), .slice A l.length C] w0 base ([(b, .cells #[.bool se, vb, .bool hello, .bool out, .bool off, .bool gr, .bool sh] 44 (0, 0))] :: H) (fun v H' => ∃ x : Sl tyB 5, x.l = (bif se then sendF gr sh l else psendF sh l) ∧ v = .slice x.A x.l.length x.C ∧ H' = x.s :: [(b, .cells #[.bool se, vb, .bool hello, .bool out, .bool off, .bool (sentF se gr sh l), .bool sh] 44 (0, 0))] :: H) := by
  refine SCalls.of_walk (n := 48) Try.func22 rfl rfl rfl fun cs => ?_
  refine At.seq ?_
  refine At.region ?_
  refine AtL.assign (.inl rfl) rfl rfl ?_
  refine AtL.done ?_
  refine At.seq ?_
  refine At.seq ?_
  refine At.region ?_
  refine AtL.move (.inl rfl) rfl rfl ?_
  refine AtL.lenL Try.underlying22 (.inl rfl) rfl rfl ?_
  refine AtL.eqi (.inl rfl) rfl rfl rfl ?_
  refine AtL.move (.inl rfl) rfl rfl ?_
  refine AtL.join 5 (E' := [(17, .bool (decide (((l.length : Int) = 0) ∨ (sh = true)))), (0, .pointer (some ⟨b, 0, none⟩)), (1, .slice A l.length C)]) (H' := [(b, .cells #[.bool se, vb, .bool hello, .bool out, .bool off, .bool gr, .bool sh] 44 (0, 0))] :: H) (fun J => ?_) ?_
  · refine AtL.split (t := 12) rfl ?_ ?_
    · intro hs12
      have hs12 : (l.length : Int) = 0 := of_decide_eq_true hs12
      refine AtL.skipped rfl rfl rfl rfl rfl rfl ?_
      refine AtL.skipped rfl rfl rfl rfl rfl rfl ?_
      refine AtL.skipped rfl rfl rfl rfl rfl rfl ?_
      refine AtL.skipped rfl rfl rfl rfl rfl rfl ?_
      refine AtL.pickT (.inl rfl) rfl rfl rfl ?_
      exact J _ (by exact ⟨(boolIs (by clear J; first | (simp [hs12]; done) | (simp_all; done) | grind)), rfl, rfl, trivial⟩)
    · intro hs12
      have hs12 : ¬ ((l.length : Int) = 0) := of_decide_eq_false hs12
      refine AtL.move (.inr ⟨_, _, _, rfl, rfl, rfl, rfl⟩) rfl rfl ?_
      refine AtL.nilCheck (.inr ⟨_, _, _, rfl, rfl, rfl, rfl⟩) rfl rfl ?_
      refine AtL.fieldAddrB tf_fo44_6 (.inr ⟨_, _, _, rfl, rfl, rfl, rfl⟩) rfl rfl rfl ?_
      refine AtL.load tf_flat4 (.inr ⟨_, _, _, rfl, rfl, rfl, rfl⟩) rfl rfl (Cell.own 0 0 rfl rfl rfl) ?_
      refine AtL.pickF (.inl rfl) rfl rfl rfl ?_
      exact J _ (by exact ⟨(boolIs (by clear J; first | (simp [hs12]; done) | (simp_all; done) | grind)), rfl, rfl, trivial⟩)
  · skip
    refine AtL.done ?_
    refine At.cond rfl ?_ ?_
    · intro hc1
      have hc1 : ((l.length : Int) = 0) ∨ (sh = true) := of_decide_eq_true hc1
      refine At.seq ?_
      refine At.region ?_
      refine AtL.assign (.inl rfl) rfl rfl ?_
      refine AtL.done ?_
      refine At.nil ?_
      exact At.ret Try.func22 rfl rfl (⟨Sl.nil, by show [] = _; cases se <;> simp only [sendF, psendF, cond_true, cond_false] <;> grind, rfl, by simp only [sentF]; rw [if_neg (by grind)]; rfl⟩)
    · intro hc1
      have hc1 : ¬ (((l.length : Int) = 0) ∨ (sh = true)) := of_decide_eq_false hc1
      refine At.skip ?_
      refine At.seq ?_
      refine At.seq ?_
      refine At.region ?_
      refine AtL.move (.inl rfl) rfl rfl ?_
      refine AtL.nilCheck (.inl rfl) rfl rfl ?_
      refine AtL.fieldAddrB tf_fo44_0 (.inl rfl) rfl rfl rfl ?_
      refine AtL.load tf_flat4 (.inl rfl) rfl rfl (Cell.own 0 0 rfl rfl rfl) ?_
      refine AtL.not (.inl rfl) rfl rfl ?_
      refine AtL.done ?_
      refine At.cond rfl ?_ ?_
      · intro hc2
        have hc2 : se = false := bnot_true hc2
        have hse : se = false := hc2
        refine At.seq ?_
        refine At.region ?_
        refine AtL.buildSlice (cs := []) Try.underlying22 tf_zero5 tf_sz5 rfl rfl (.inl rfl) rfl rfl rfl ?_
        intro b1
        refine AtL.own1 tyB (l := ([] : List UInt8)) rfl rfl (by first | decide | simp) ?_
        intro s2 o3
        refine AtL.move (.inl rfl) rfl rfl ?_
        refine AtL.append (l := []) (news := l) 0 tf_el22 rfl o3 (Rd.skip 2 h) (by first | omega | (simp only [List.length_append, List.length_cons, List.length_nil, recB_len]; omega) | (simp [recB_len]; done) | (simp [recB_len]; omega)) (.inl rfl) rfl rfl rfl ?_
        intro A4 C5 s6 o7
        refine AtL.assign (.inl rfl) rfl rfl ?_
        refine AtL.done ?_
        exact At.ret Try.func22 rfl rfl (⟨⟨A4, C5, [] ++ l, s6, o7⟩, by show _ = _; simp only [sendF, psendF, hse, cond_false]; grind, rfl, by simp only [sentF]; rw [if_neg (by simp [hse])]; rfl⟩)
      · intro hc2
        have hc2 : se = true := bnot_false hc2
        have hse : se = true := hc2
        refine At.skip ?_
        refine At.seq ?_
        refine At.region ?_
        refine AtL.move (.inl rfl) rfl rfl ?_
        refine AtL.call tf_body29 (.inl rfl) rfl rfl rhello_ok ?_
        rintro _ _ ⟨⟨A8, C9, l10, s11, o12⟩, hx13, rfl, rfl⟩
        obtain rfl : greetF gr = l10 := hx13.symm
        refine AtL.assign (.inl rfl) rfl rfl ?_
        refine AtL.done ?_
        refine At.seq ?_
        refine At.block ?_
        refine At.loop2 (fun (x : Sl tyB 5) (v : Vw tyB w0 base H) => [(1, .slice v.A v.l.length v.C), (5, .slice x.A x.l.length x.C)]) (fun (x : Sl tyB 5) (v : Vw tyB w0 base H) => x.s :: [(b, .cells #[.bool se, vb, .bool hello, .bool out, .bool off, .bool true, .bool sh] 44 (0, 0))] :: H) (fun (x : Sl tyB 5) (v : Vw tyB w0 base H) => x.l ++ recs v.l = greetF gr ++ recs l ∧ v.l.length ≤ l.length ∧ x.l.length + 4 * v.l.length ≤ 4 + 4 * l.length) (fun (x : Sl tyB 5) (v : Vw tyB w0 base H) => v.l.length) (⟨A8, C9, greetF gr, s11, o12⟩) (⟨A, C, l, h⟩) (⟨rfl, Nat.le_refl _, by have := greet_len gr; simp; omega⟩) ⟨rfl, rfl, trivial⟩ rfl ?_
        rintro x v ⟨hI, hv, hlen⟩ ihL1
        refine At.seq ?_
        refine At.seq ?_
        refine At.region ?_
        refine AtL.move (.inl rfl) rfl rfl ?_
        refine AtL.lenL Try.underlying22 (.inl rfl) rfl rfl ?_
        refine AtL.gtr (.inl rfl) rfl rfl rfl ?_
        refine AtL.done ?_
        refine At.cond rfl ?_ ?_
        · intro hc3
          have hc3 : 0 < (v.l.length : Int) := of_decide_eq_true hc3
          refine At.skip ?_
          refine At.block ?_
          refine At.seq ?_
          refine At.region ?_
          refine AtL.move (.inl rfl) rfl rfl ?_
          refine AtL.lenL Try.underlying22 (.inl rfl) rfl rfl ?_
          refine AtL.minZ (z := ((min v.l.length 1024 : Nat) : Int)) (.inl rfl) rfl rfl rfl (by omega) ?_
          refine AtL.assign (.inl rfl) rfl rfl ?_
          refine AtL.done ?_
          refine At.seq ?_
          refine At.region ?_
          refine AtL.move (.inl rfl) rfl rfl ?_
          refine AtL.move (.inl rfl) rfl rfl ?_
          have hleo16 := Rd.le v.rd
          refine AtL.sliceR 2 0 (min v.l.length 1024 : Nat) v.C v.rd rfl (evBound_some rfl rfl) rfl (by intro h; cases h) (by omega) (by omega) (by omega) (by omega) Try.underlying22 tf_sz5 (.inl rfl) rfl rfl ?_
          clear hleo16
          intro A14 C15 (o16 : Rd tyB w0 base H A14 C15 (subl v.l 0 (min v.l.length 1024 : Nat)))
          have hlo16 : (subl v.l 0 (min v.l.length 1024 : Nat)).length = (min v.l.length 1024 : Nat) - 0 := subl_len (by omega)
          refine AtL.call tf_body12 (.inl rfl) rfl rfl (rrec_ok (l := subl v.l 0 (min v.l.length 1024 : Nat)) (Rd.skip 2 o16) (by first | omega | (simp only [List.length_append, List.length_cons, List.length_nil, recB_len]; omega) | (simp [recB_len]; done) | (simp [recB_len]; omega)) 2) ?_
          rintro _ _ ⟨A17, C18, s19, l21, o20, hl22, rfl, rfl⟩
          obtain rfl : recB 2 (subl v.l 0 (min v.l.length 1024 : Nat)) = l21 := (hl22.trans (recL_data _ (by omega))).symm
          refine AtL.move (.inl rfl) rfl rfl ?_
          refine AtL.extract (.inl rfl) rfl rfl rfl ?_
          refine AtL.extract (.inl rfl) rfl rfl rfl ?_
          refine AtL.assign (.inl rfl) rfl rfl ?_
          refine AtL.assign (.inl rfl) rfl rfl ?_
          refine AtL.done ?_
          refine At.seq ?_
          refine At.region ?_
          refine AtL.move (.inl rfl) rfl rfl ?_
          refine AtL.move (.inl rfl) rfl rfl ?_
          refine AtL.append (l := x.l) (news := recB 2 (subl v.l 0 (min v.l.length 1024 : Nat))) 1 tf_el22 rfl x.own (o20.rd (i := 0) rfl) (by first | omega | (simp only [List.length_append, List.length_cons, List.length_nil, recB_len]; omega) | (simp [recB_len]; done) | (simp [recB_len]; omega)) (.inl rfl) rfl rfl rfl ?_
          intro A23 C24 s25 o26
          refine AtL.assign (.inl rfl) rfl rfl ?_
          refine AtL.done ?_
          refine At.region ?_
          refine AtL.move (.inl rfl) rfl rfl ?_
          refine AtL.move (.inl rfl) rfl rfl ?_
          have hleo29 := Rd.le v.rd
          refine AtL.sliceR 3 (min v.l.length 1024 : Nat) v.l.length v.C v.rd (evBound_some rfl rfl) rfl rfl (by intro h; cases h) (by omega) (by omega) (by omega) (by omega) Try.underlying22 tf_sz5 (.inl rfl) rfl rfl ?_
          clear hleo29
          intro A27 C28 (o29 : Rd tyB w0 base H A27 C28 (subl v.l (min v.l.length 1024 : Nat) v.l.length))
          have hlo29 : (subl v.l (min v.l.length 1024 : Nat) v.l.length).length = v.l.length - (min v.l.length 1024 : Nat) := subl_len (by omega)
          refine AtL.assign (.inl rfl) rfl rfl ?_
          refine AtL.done ?_
          refine At.inBlock ?_
          refine At.pick (H' := s25 :: [(b, .cells #[.bool se, vb, .bool hello, .bool out, .bool off, .bool true, .bool sh] 44 (0, 0))] :: H) [1, 2] 3 rfl rfl ?_
          exact ihL1 (⟨A23, C24, x.l ++ (recB 2 (subl v.l 0 (min v.l.length 1024 : Nat))), s25, o26⟩) (⟨A27, C28, subl v.l (min v.l.length 1024 : Nat) v.l.length, o29⟩) (⟨recs_cut _ (by omega) (by omega) hI, by simp only [subl_drop, List.length_drop]; omega, by simp only [subl_drop, List.length_drop, List.length_append, recB_len, subl_to, List.length_take]; omega⟩) (by simp only [subl_drop, List.length_drop]; omega) _ (by exact ⟨(by first | rfl | exact slLen (by simp []) | exact intEq (by omega) | exact intEq (by simp []) | exact slLen (by simp []; omega)), (by first | rfl | exact slLen (by simp []) | exact intEq (by omega) | exact intEq (by simp []) | exact slLen (by simp []; omega)), trivial⟩)
        · intro hc3
          have hc3 : ¬ (0 < (v.l.length : Int)) := of_decide_eq_false hc3
          refine At.exit rfl ?_
          refine At.seq ?_
          refine At.region ?_
          refine AtL.move (.inl rfl) rfl rfl ?_
          refine AtL.assign (.inl rfl) rfl rfl ?_
          refine AtL.done ?_
          have hv0 : v.l = [] := List.eq_nil_of_length_eq_zero (by omega)
          have hI2 : x.l = greetF gr ++ recs l := by rw [← hI, hv0, recs_nil, List.append_nil]
          exact At.ret Try.func22 rfl rfl (⟨x, by rw [hse, cond_true, sendF, if_neg (by grind)]; exact hI2, rfl, by rw [sentF, if_pos (by grind)]⟩)

end Go.Proofs.Ytllfgcekebafhaa
