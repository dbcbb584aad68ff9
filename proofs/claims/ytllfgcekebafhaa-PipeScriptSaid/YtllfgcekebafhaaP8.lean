/- The contract of Send of a sealed channel. -/
import Derived.Test.YtllfgcekebafhaaP7
namespace Go.Proofs.Ytllfgcekebafhaa
set_option linter.unusedVariables false
set_option linter.unusedSimpArgs false
set_option maxRecDepth 100000

theorem recs_cut2 {x y l : List UInt8} (i n : Nat) (hn : n = i + min 1024 (l.length - i)) (h : i < l.length) (hI : x ++ recs (l.drop i) = y) : (x ++ recB 2 (subl l i n)) ++ recs (l.drop n) = y := by
  have := recs_cut (l := l.drop i) (min (l.drop i).length 1024) rfl (by simp; omega) hI
  rw [subl_drop, List.drop_drop] at this
  rw [show subl l i n = subl (l.drop i) 0 (min (l.drop i).length 1024) from by simp only [subl, List.drop_zero, List.length_drop]; congr 1; omega]
  rw [show n = i + min (l.drop i).length 1024 from by simp; omega]
  exact this

set_option maxHeartbeats 400000 in
theorem send_ok {w0 : World} {base : Nat} {H : List Seg} {b : Nat} {vb : Value} {hello off out gr sh : Bool} {A : Option Addr} {C : Nat} {l : List UInt8} (h : Rd tyB w0 base H A C l) (hl : l.length ≤ 140737488355) :
    SCalls Try.prog 54 [.pointer (some ⟨b, 0, none⟩), .slice A l.length C] w0 base ([(b, .cells #[vb, .bool hello, .bool off, .bool out, .bool gr, .bool sh] 61 (0, 0))] :: H) (fun v H' => ∃ x : Sl tyB 5, x.l = sendF gr sh l ∧ v = .slice x.A x.l.length x.C ∧ H' = x.s :: [(b, .cells #[vb, .bool hello, .bool off, .bool out, .bool (sentF true gr sh l), .bool sh] 61 (0, 0))] :: H) := by
  refine SCalls.of_walk (n := 32) Try.func54 rfl rfl rfl fun cs => ?_
  refine At.seq ?_
  refine At.region ?_
  refine AtL.assign (.inl rfl) rfl rfl ?_
  refine AtL.done ?_
  refine At.seq ?_
  refine At.seq ?_
  refine At.region ?_
  refine AtL.move (.inl rfl) rfl rfl ?_
  refine AtL.nilCheck (.inl rfl) rfl rfl ?_
  refine AtL.fieldAddrB tf_fo61_5 (.inl rfl) rfl rfl rfl ?_
  refine AtL.load tf_flat4 (.inl rfl) rfl rfl (Cell.own 0 0 rfl rfl rfl) ?_
  refine AtL.move (.inl rfl) rfl rfl ?_
  refine AtL.join 4 (E' := [(17, .bool (decide ((sh = true) ∨ ((l.length : Int) = 0)))), (0, .pointer (some ⟨b, 0, none⟩)), (1, .slice A l.length C)]) (H' := [(b, .cells #[vb, .bool hello, .bool off, .bool out, .bool gr, .bool sh] 61 (0, 0))] :: H) (fun J => ?_) ?_
  · refine AtL.split (t := 13) rfl ?_ ?_
    · intro hs13
      have hs13 : sh = true := hs13
      refine AtL.skipped rfl rfl rfl rfl rfl rfl ?_
      refine AtL.skipped rfl rfl rfl rfl rfl rfl ?_
      refine AtL.skipped rfl rfl rfl rfl rfl rfl ?_
      refine AtL.pickT (.inl rfl) rfl rfl rfl ?_
      exact J _ (by exact ⟨(boolIs (by clear J; first | (simp [hs13]; done) | (simp_all; done) | grind)), rfl, rfl, trivial⟩)
    · intro hs13
      have hs13 : sh = false := hs13
      refine AtL.move (.inr ⟨_, _, _, rfl, rfl, rfl, rfl⟩) rfl rfl ?_
      refine AtL.lenL Try.underlying22 (.inr ⟨_, _, _, rfl, rfl, rfl, rfl⟩) rfl rfl ?_
      refine AtL.eqi (.inr ⟨_, _, _, rfl, rfl, rfl, rfl⟩) rfl rfl rfl ?_
      refine AtL.pickF (.inl rfl) rfl rfl rfl ?_
      exact J _ (by exact ⟨(boolIs (by clear J; first | (simp [hs13]; done) | (simp_all; done) | grind)), rfl, rfl, trivial⟩)
  · skip
    refine AtL.done ?_
    refine At.cond rfl ?_ ?_
    · intro hc1
      have hc1 : (sh = true) ∨ ((l.length : Int) = 0) := of_decide_eq_true hc1
      refine At.seq ?_
      refine At.region ?_
      refine AtL.assign (.inl rfl) rfl rfl ?_
      refine AtL.done ?_
      refine At.nil ?_
      exact At.ret Try.func54 rfl rfl (⟨Sl.nil, by rw [sendF, if_pos (by grind)]; rfl, rfl, by rw [sentF, if_neg (by grind)]; rfl⟩)
    · intro hc1
      have hc1 : ¬ ((sh = true) ∨ ((l.length : Int) = 0)) := of_decide_eq_false hc1
      refine At.skip ?_
      refine At.seq ?_
      refine At.region ?_
      refine AtL.move (.inl rfl) rfl rfl ?_
      refine AtL.call tf_body55 (.inl rfl) rfl rfl greet_ok ?_
      rintro _ _ ⟨⟨A3, C4, l5, s6, o7⟩, hx2, rfl, rfl⟩
      obtain rfl : greetF gr = l5 := hx2.symm
      refine AtL.alloc tf_zero22 (cs := #[.slice none 0 0]) rfl (.inl rfl) rfl ?_
      intro b8
      refine AtL.store (H' := [(b8, .cells #[.slice A3 (greetF gr).length C4] 22 (0, 0))] :: s6 :: [(b, .cells #[vb, .bool hello, .bool off, .bool out, .bool true, .bool sh] 61 (0, 0))] :: H) 0 0 tf_sz22 (.inl rfl) rfl rfl rfl rfl rfl rfl rfl rfl rfl ?_
      refine AtL.done ?_
      refine At.seq ?_
      refine At.seq ?_
      refine At.region ?_
      refine AtL.move (.inl rfl) rfl rfl ?_
      refine AtL.call tf_body58 (.inl rfl) rfl rfl (chunk_ok (l := l) 1024 (by omega)) ?_
      rintro _ _ ⟨bs9, bn10, rfl, rfl⟩
      refine AtL.done ?_
      refine At.block ?_
      refine At.rangeF (R := fun L lp rr v H' => ∃ x : Sl tyB 5, x.l = greetF gr ++ recs l ∧ H' = [(bs9, .cells #[.slice A l.length C] 22 (0, 0))] :: [(bn10, .cells #[.int .i64 1024] 3 (0, 0))] :: [(lp, .loop L)] :: [(rr, .deferred (some []))] :: x.s :: [(b8, .cells #[.slice x.A x.l.length x.C] 22 (0, 0))] :: [(b, .cells #[vb, .bool hello, .bool off, .bool out, .bool true, .bool sh] 61 (0, 0))] :: H) rfl tf_body62 rfl (fun lp => rfl) (fun L lp rr hL => ?_) (fun L lp rr v H1 hL hR => ?_)
      · skip
        refine SCalls.pick (H' := [(bs9, .cells #[.slice A l.length C] 22 (0, 0))] :: [(bn10, .cells #[.int .i64 1024] 3 (0, 0))] :: [(lp, .loop L)] :: [(rr, .deferred (some []))] :: s6 :: [(b8, .cells #[.slice A3 (greetF gr).length C4] 22 (0, 0))] :: [(b, .cells #[vb, .bool hello, .bool off, .bool out, .bool true, .bool sh] 61 (0, 0))] :: H) [3, 2, 0, 1, 5, 4, 6] 7 rfl rfl ?_
        refine SCalls.mono (chunkit_ok (T := H) (Hc := [[(lp, .loop L)], [(rr, .deferred (some []))], s6, [(b8, .cells #[.slice A3 (greetF gr).length C4] 22 (0, 0))], [(b, .cells #[vb, .bool hello, .bool off, .bool out, .bool true, .bool sh] 61 (0, 0))]]) (J := (fun i Hc => ∃ x : Sl tyB 5, x.l ++ recs (l.drop i) = greetF gr ++ recs l ∧ x.l.length ≤ 4 + 4 * i ∧ Hc = [[(lp, .loop L)], [(rr, .deferred (some []))], x.s, [(b8, .cells #[.slice x.A x.l.length x.C] 22 (0, 0))], [(b, .cells #[vb, .bool hello, .bool off, .bool out, .bool true, .bool sh] 61 (0, 0))]])) h (by omega) 1024 (by omega) (by omega) (fun i Hc hi hJ T' A' C' rd => ?_) ⟨⟨A3, C4, greetF gr, s6, o7⟩, rfl, (by have := greet_len gr; simp; omega), rfl⟩) (fun v H' hp => ?_)
        · skip
          obtain ⟨x, hI, hlen, rfl⟩ := hJ
          have hln : (subl l i (i + min 1024 (l.length - i))).length = min 1024 (l.length - i) := by rw [subl_len (by omega)]; omega
          refine YCalls.walkL hL (i := 0) (j := 0) rfl rfl rfl rfl rfl (fun c cs => ?_)
          refine At.region ?_
          refine AtL.assign (.inl rfl) rfl rfl ?_
          refine AtL.done ?_
          refine At.beginL 0 0 hL rfl rfl rfl rfl ?_
          refine At.block ?_
          refine At.seq ?_
          refine At.region ?_
          refine AtL.move (.inl rfl) rfl rfl ?_
          refine AtL.call tf_body11 (.inl rfl) rfl rfl (rec_ok (l := subl l i (i + min 1024 (l.length - i))) (Rd.skip 5 rd) (by first | omega | (simp only [List.length_append, List.length_cons, List.length_nil, recB_len, hln]; omega) | (simp [recB_len, hln]; done) | (simp [recB_len, hln]; omega)) 2) ?_
          rintro _ _ ⟨A11, C12, s13, l15, o14, hl16, rfl, rfl⟩
          obtain rfl : recB 2 (subl l i (i + min 1024 (l.length - i))) = l15 := (hl16.trans (recL_data _ (by rw [hln]; omega))).symm
          refine AtL.move (.inl rfl) rfl rfl ?_
          refine AtL.extract (.inl rfl) rfl rfl rfl ?_
          refine AtL.extract (.inl rfl) rfl rfl rfl ?_
          refine AtL.assign (.inl rfl) rfl rfl ?_
          refine AtL.assign (.inl rfl) rfl rfl ?_
          refine AtL.done ?_
          refine At.region ?_
          refine AtL.load tf_flat22 (.inl rfl) rfl rfl (Cell.own 4 0 rfl rfl rfl) ?_
          refine AtL.move (.inl rfl) rfl rfl ?_
          refine AtL.append (l := x.l) (news := recB 2 (subl l i (i + min 1024 (l.length - i)))) 3 tf_el22 rfl x.own (o14.rd (i := 0) rfl) (by first | omega | (simp only [List.length_append, List.length_cons, List.length_nil, recB_len, hln]; omega) | (simp [recB_len, hln]; done) | (simp [recB_len, hln]; omega)) (.inl rfl) rfl rfl rfl ?_
          intro A17 C18 s19 o20
          refine AtL.store (H' := s13 :: [(lp, .loop (busyL L))] :: [(rr, .deferred (some []))] :: s19 :: [(b8, .cells #[.slice A17 (x.l ++ (recB 2 (subl l i (i + min 1024 (l.length - i))))).length C18] 22 (0, 0))] :: [(b, .cells #[vb, .bool hello, .bool off, .bool out, .bool true, .bool sh] 61 (0, 0))] :: T') 4 0 tf_sz22 (.inl rfl) rfl rfl rfl rfl rfl rfl rfl rfl rfl ?_
          refine AtL.done ?_
          refine At.inBlock ?_
          refine At.pick (H' := [(lp, .loop (busyL L))] :: [(rr, .deferred (some []))] :: s19 :: [(b8, .cells #[.slice A17 (x.l ++ (recB 2 (subl l i (i + min 1024 (l.length - i))))).length C18] 22 (0, 0))] :: [(b, .cells #[vb, .bool hello, .bool off, .bool out, .bool true, .bool sh] 61 (0, 0))] :: T') [1, 2, 3, 4, 5] 6 rfl rfl ?_
          exact At.roundEndL 0 0 hL rfl rfl rfl (⟨rfl, [[(lp, .loop L)], [(rr, .deferred (some []))], s19, [(b8, .cells #[.slice A17 (x.l ++ (recB 2 (subl l i (i + min 1024 (l.length - i))))).length C18] 22 (0, 0))], [(b, .cells #[vb, .bool hello, .bool off, .bool out, .bool true, .bool sh] 61 (0, 0))]], rfl, ⟨A17, C18, x.l ++ (recB 2 (subl l i (i + min 1024 (l.length - i)))), s19, o20⟩, recs_cut2 i _ rfl hi hI, by simp only [List.length_append, recB_len, hln]; omega, rfl⟩)
        · skip
          obtain ⟨rfl, Hc', rfl, x, hI, hlen, rfl⟩ := hp
          exact ⟨x, by rw [← hI, List.drop_length, recs_nil, List.append_nil], rfl⟩
      · skip
        obtain ⟨x, hI, rfl⟩ := hR
        refine ⟨2, 0, _, L, _, rfl, rfl, loop_ready hL, rfl, ?_⟩
        rw [loop_dry hL]
        refine At.inBlock ?_
        refine At.seq ?_
        refine At.region ?_
        refine AtL.load tf_flat22 (.inl rfl) rfl rfl (Cell.own 5 0 rfl rfl rfl) ?_
        refine AtL.assign (.inl rfl) rfl rfl ?_
        refine AtL.done ?_
        refine At.retU rfl ?_
        refine Un.collected (i := 3) (j := 0) rfl rfl rfl rfl ?_
        exact Un.leftP (vs := [.slice x.A x.l.length x.C]) (H2 := x.s :: [(b, .cells #[vb, .bool hello, .bool off, .bool out, .bool true, .bool sh] 61 (0, 0))] :: H) [4, 6] 7 rfl rfl Try.func54 rfl ⟨rfl, trivial⟩ (⟨x, by rw [sendF, if_neg (by grind)]; exact hI, rfl, by rw [sentF, if_pos (by grind)]⟩)

end Go.Proofs.Ytllfgcekebafhaa
