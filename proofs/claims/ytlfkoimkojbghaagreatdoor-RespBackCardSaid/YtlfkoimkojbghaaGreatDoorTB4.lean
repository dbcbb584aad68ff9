/- The statements of responses: examples. -/
import Derived.Test.YtlfkoimkojbghaaGreatDoorTB3
import Derived.Test.YtlfkoimkojbghaaGreatDoorTK1
namespace Go.Proofs.YtlfkoimkojbghaaGreatDoor
set_option linter.unusedVariables false
set_option linter.unusedSimpArgs false
set_option maxRecDepth 100000

theorem respV_eq {s s2 : Int} {f f2 : List Fld} {b b2 : List UInt8} {k k2 : Bool} : ((⟨s, f, b, k⟩ : RespV) = ⟨s2, f2, b2, k2⟩) ↔ (((s = s2 ∧ (k == k2) = true) ∧ f = f2) ∧ b = b2) := by
  constructor
  · intro h; cases h; simp
  · rintro ⟨⟨⟨rfl, h⟩, rfl⟩, rfl⟩; rw [eq_of_beq h]

set_option maxHeartbeats 400000 in
theorem sameresp_ok {w0 : World} {base : Nat} {H : List Seg} {st : Int} {A A2 : Option Addr} {C C2 : Nat} {fs : List (List UInt8 × List UInt8)} {b : List UInt8} {kp : Bool} (h : Rd tyField w0 base H A C fs) (h2 : Rd tyB w0 base H A2 C2 b) {st2 : Int} {B1 B2 : Option Addr} {D1 D2 : Nat} {gs : List (List UInt8 × List UInt8)} {c : List UInt8} {kp2 : Bool} (g : Rd tyField w0 base H B1 D1 gs) (g2 : Rd tyB w0 base H B2 D2 c) :
    SCalls Tryz.prog 41 [.agg #[.int .i64 st, .slice A fs.length C, .slice A2 b.length C2, .bool kp], .agg #[.int .i64 st2, .slice B1 gs.length D1, .slice B2 c.length D2, .bool kp2]] w0 base (H) (fun v H' => v = .bool (decide ((⟨st, fs, b, kp⟩ : RespV) = ⟨st2, gs, c, kp2⟩)) ∧ H' = H) := by
  refine SCalls.of_walk (n := 31) Tryz.func41 rfl rfl rfl fun cs => ?_
  refine At.seq ?_
  refine At.region ?_
  refine AtL.box (cs := #[.int .i64 st, .slice A fs.length C, .slice A2 b.length C2, .bool kp]) rfl (.inl rfl) rfl rfl ?_
  intro b1
  refine AtL.box (cs := #[.int .i64 st2, .slice B1 gs.length D1, .slice B2 c.length D2, .bool kp2]) rfl (.inl rfl) rfl rfl ?_
  intro b2
  refine AtL.assign (.inl rfl) rfl rfl ?_
  refine AtL.done ?_
  refine At.seq ?_
  refine At.region ?_
  refine AtL.fieldAddrB tf_fo42_0 (.inl rfl) rfl rfl rfl ?_
  refine AtL.load tf_flat3 (.inl rfl) rfl rfl (Cell.own 1 0 rfl rfl rfl) ?_
  refine AtL.fieldAddrB tf_fo42_0 (.inl rfl) rfl rfl rfl ?_
  refine AtL.load tf_flat3 (.inl rfl) rfl rfl (Cell.own 0 0 rfl rfl rfl) ?_
  refine AtL.eqi (.inl rfl) rfl rfl rfl ?_
  refine AtL.move (.inl rfl) rfl rfl ?_
  refine AtL.join 6 (E' := [(16, .bool (decide (((st : Int) = st2) ∧ ((kp == kp2) = true)))), (2, .pointer (some ⟨b1, 0, none⟩)), (3, .pointer (some ⟨b2, 0, none⟩))]) (H' := [(b2, .cells #[.int .i64 st2, .slice B1 gs.length D1, .slice B2 c.length D2, .bool kp2] 42 (0, 0))] :: [(b1, .cells #[.int .i64 st, .slice A fs.length C, .slice A2 b.length C2, .bool kp] 42 (0, 0))] :: H) (fun J => ?_) ?_
  · refine AtL.split (t := 10) rfl ?_ ?_
    · intro hs10
      have hs10 : (st : Int) = st2 := of_decide_eq_true hs10
      refine AtL.fieldAddrB tf_fo42_3 (.inr ⟨_, _, _, rfl, rfl, rfl, rfl⟩) rfl rfl rfl ?_
      refine AtL.load tf_flat4 (.inr ⟨_, _, _, rfl, rfl, rfl, rfl⟩) rfl rfl (Cell.own 1 0 rfl rfl rfl) ?_
      refine AtL.fieldAddrB tf_fo42_3 (.inr ⟨_, _, _, rfl, rfl, rfl, rfl⟩) rfl rfl rfl ?_
      refine AtL.load tf_flat4 (.inr ⟨_, _, _, rfl, rfl, rfl, rfl⟩) rfl rfl (Cell.own 0 0 rfl rfl rfl) ?_
      refine AtL.eqb Tryz.underlying4 (.inr ⟨_, _, _, rfl, rfl, rfl, rfl⟩) rfl rfl rfl ?_
      refine AtL.pickT (.inl rfl) rfl rfl rfl ?_
      exact J _ (by exact ⟨(boolIs (by clear J; first | (simp [hs10]; done) | (simp_all; done) | grind)), rfl, rfl, trivial⟩)
    · intro hs10
      have hs10 : ¬ ((st : Int) = st2) := of_decide_eq_false hs10
      refine AtL.skipped rfl rfl rfl rfl rfl rfl ?_
      refine AtL.skipped rfl rfl rfl rfl rfl rfl ?_
      refine AtL.skipped rfl rfl rfl rfl rfl rfl ?_
      refine AtL.skipped rfl rfl rfl rfl rfl rfl ?_
      refine AtL.skipped rfl rfl rfl rfl rfl rfl ?_
      refine AtL.pickF (.inl rfl) rfl rfl rfl ?_
      exact J _ (by exact ⟨(boolIs (by clear J; first | (simp [hs10]; done) | (simp_all; done) | grind)), rfl, rfl, trivial⟩)
  · skip
    refine AtL.move (.inl rfl) rfl rfl ?_
    refine AtL.join 6 (E' := [(23, .bool (decide ((((st : Int) = st2) ∧ ((kp == kp2) = true)) ∧ (fs = gs)))), (2, .pointer (some ⟨b1, 0, none⟩)), (3, .pointer (some ⟨b2, 0, none⟩))]) (H' := [(b2, .cells #[.int .i64 st2, .slice B1 gs.length D1, .slice B2 c.length D2, .bool kp2] 42 (0, 0))] :: [(b1, .cells #[.int .i64 st, .slice A fs.length C, .slice A2 b.length C2, .bool kp] 42 (0, 0))] :: H) (fun J => ?_) ?_
    · refine AtL.split (t := 17) rfl ?_ ?_
      · intro hs17
        have hs17 : ((st : Int) = st2) ∧ ((kp == kp2) = true) := of_decide_eq_true hs17
        refine AtL.fieldAddrB tf_fo42_1 (.inr ⟨_, _, _, rfl, rfl, rfl, rfl⟩) rfl rfl rfl ?_
        refine AtL.load tf_flat33 (.inr ⟨_, _, _, rfl, rfl, rfl, rfl⟩) rfl rfl (Cell.own 1 0 rfl rfl rfl) ?_
        refine AtL.fieldAddrB tf_fo42_1 (.inr ⟨_, _, _, rfl, rfl, rfl, rfl⟩) rfl rfl rfl ?_
        refine AtL.load tf_flat33 (.inr ⟨_, _, _, rfl, rfl, rfl, rfl⟩) rfl rfl (Cell.own 0 0 rfl rfl rfl) ?_
        refine AtL.call tf_body89 (.inr ⟨_, _, _, rfl, rfl, rfl, rfl⟩) rfl rfl (samefields_ok (fs := fs) (gs := gs) (Rd.skip 2 h) (Rd.skip 2 g)) ?_
        rintro _ _ ⟨rfl, rfl⟩
        refine AtL.pickT (.inl rfl) rfl rfl rfl ?_
        exact J _ (by exact ⟨(boolIs (by clear J; first | (simp [hs17]; done) | (simp_all; done) | grind)), rfl, rfl, trivial⟩)
      · intro hs17
        have hs17 : ¬ (((st : Int) = st2) ∧ ((kp == kp2) = true)) := of_decide_eq_false hs17
        refine AtL.skipped rfl rfl rfl rfl rfl rfl ?_
        refine AtL.skipped rfl rfl rfl rfl rfl rfl ?_
        refine AtL.skipped rfl rfl rfl rfl rfl rfl ?_
        refine AtL.skipped rfl rfl rfl rfl rfl rfl ?_
        refine AtL.skipped rfl rfl rfl rfl rfl rfl ?_
        refine AtL.pickF (.inl rfl) rfl rfl rfl ?_
        exact J _ (by exact ⟨(boolIs (by clear J; first | (simp [hs17]; done) | (simp_all; done) | grind)), rfl, rfl, trivial⟩)
    · skip
      refine AtL.move (.inl rfl) rfl rfl ?_
      refine AtL.join 6 (E' := [(30, .bool (decide (((((st : Int) = st2) ∧ ((kp == kp2) = true)) ∧ (fs = gs)) ∧ (b = c))))]) (H' := [(b2, .cells #[.int .i64 st2, .slice B1 gs.length D1, .slice B2 c.length D2, .bool kp2] 42 (0, 0))] :: [(b1, .cells #[.int .i64 st, .slice A fs.length C, .slice A2 b.length C2, .bool kp] 42 (0, 0))] :: H) (fun J => ?_) ?_
      · refine AtL.split (t := 24) rfl ?_ ?_
        · intro hs24
          have hs24 : (((st : Int) = st2) ∧ ((kp == kp2) = true)) ∧ (fs = gs) := of_decide_eq_true hs24
          refine AtL.fieldAddrB tf_fo42_2 (.inr ⟨_, _, _, rfl, rfl, rfl, rfl⟩) rfl rfl rfl ?_
          refine AtL.load tf_flat22 (.inr ⟨_, _, _, rfl, rfl, rfl, rfl⟩) rfl rfl (Cell.own 1 0 rfl rfl rfl) ?_
          refine AtL.fieldAddrB tf_fo42_2 (.inr ⟨_, _, _, rfl, rfl, rfl, rfl⟩) rfl rfl rfl ?_
          refine AtL.load tf_flat22 (.inr ⟨_, _, _, rfl, rfl, rfl, rfl⟩) rfl rfl (Cell.own 0 0 rfl rfl rfl) ?_
          refine AtL.call tf_body27 (.inr ⟨_, _, _, rfl, rfl, rfl, rfl⟩) rfl rfl (same_ok (l := b) (l2 := c) (Rd.skip 2 h2) (Rd.skip 2 g2)) ?_
          rintro _ _ ⟨rfl, rfl⟩
          refine AtL.pickT (.inl rfl) rfl rfl rfl ?_
          exact J _ (by exact ⟨(boolIs (by clear J; first | (simp [hs24]; done) | (simp_all; done) | grind)), trivial⟩)
        · intro hs24
          have hs24 : ¬ ((((st : Int) = st2) ∧ ((kp == kp2) = true)) ∧ (fs = gs)) := of_decide_eq_false hs24
          refine AtL.skipped rfl rfl rfl rfl rfl rfl ?_
          refine AtL.skipped rfl rfl rfl rfl rfl rfl ?_
          refine AtL.skipped rfl rfl rfl rfl rfl rfl ?_
          refine AtL.skipped rfl rfl rfl rfl rfl rfl ?_
          refine AtL.skipped rfl rfl rfl rfl rfl rfl ?_
          refine AtL.pickF (.inl rfl) rfl rfl rfl ?_
          exact J _ (by exact ⟨(boolIs (by clear J; first | (simp [hs24]; done) | (simp_all; done) | grind)), trivial⟩)
      · skip
        refine AtL.assign (.inl rfl) rfl rfl ?_
        refine AtL.done ?_
        refine At.pick (H' := H) [] 2 rfl rfl ?_
        exact At.ret Tryz.func41 rfl rfl (⟨congrArg Value.bool (decide_eq_decide.2 respV_eq.symm), rfl⟩)

set_option maxHeartbeats 400000 in
theorem long15_ok {w0 : World} {base : Nat} {H : List Seg} {st : Int} {A A2 : Option Addr} {C C2 : Nat} {fs : List (List UInt8 × List UInt8)} {b : List UInt8} {kp : Bool} (h : Rd tyField w0 base H A C fs) (h2 : Rd tyB w0 base H A2 C2 b) (hb : ∀ f ∈ fs, f.1.length ≤ 140737488355000 ∧ f.2.length ≤ 140737488355000) :
    SCalls Tryz.prog 47 [.agg #[.int .i64 st, .slice A fs.length C, .slice A2 b.length C2, .bool kp]] w0 base (H) (fun v H' => ∃ bl, v = .bool bl ∧ (bl = false → fs.length ≤ 40 ∧ (∀ f ∈ fs, f.1.length ≤ 6000 ∧ f.2.length ≤ 6000) ∧ b.length ≤ 70000) ∧ H' = H) := by
  have hle0 := h.le
  have hcap0 := h.cap
  have hle2 := h2.le
  have hcap2 := h2.cap
  refine SCalls.of_walk (n := 12) Tryz.func47 rfl rfl rfl fun cs => ?_
  refine At.seq ?_
  refine At.region ?_
  refine AtL.box (cs := #[.int .i64 st, .slice A fs.length C, .slice A2 b.length C2, .bool kp]) rfl (.inl rfl) rfl rfl ?_
  intro b1
  refine AtL.assign (.inl rfl) rfl rfl ?_
  refine AtL.done ?_
  refine At.seq ?_
  refine At.region ?_
  refine AtL.fieldAddrB tf_fo42_1 (.inl rfl) rfl rfl rfl ?_
  refine AtL.load tf_flat33 (.inl rfl) rfl rfl (Cell.own 0 0 rfl rfl rfl) ?_
  refine AtL.call tf_body81 (.inl rfl) rfl rfl (longfields_ok (fs := fs) (Rd.skip 1 h) hb 40) ?_
  rintro _ _ ⟨bl2, rfl, hx3, rfl⟩
  have hlong := hx3
  refine AtL.move (.inl rfl) rfl rfl ?_
  refine AtL.join 5 (E' := [(11, .bool (decide ((bl2 = true) ∨ (70000 < (b.length : Int)))))]) (H' := [(b1, .cells #[.int .i64 st, .slice A fs.length C, .slice A2 b.length C2, .bool kp] 42 (0, 0))] :: H) (fun J => ?_) ?_
  · refine AtL.split (t := 6) rfl ?_ ?_
    · intro hs6
      have hs6 : bl2 = true := hs6
      refine AtL.skipped rfl rfl rfl rfl rfl rfl ?_
      refine AtL.skipped rfl rfl rfl rfl rfl rfl ?_
      refine AtL.skipped rfl rfl rfl rfl rfl rfl ?_
      refine AtL.skipped rfl rfl rfl rfl rfl rfl ?_
      refine AtL.pickT (.inl rfl) rfl rfl rfl ?_
      exact J _ (by exact ⟨(boolIs (by clear J; first | (simp [hs6]; done) | (simp_all; done) | grind)), trivial⟩)
    · intro hs6
      have hs6 : bl2 = false := hs6
      refine AtL.fieldAddrB tf_fo42_2 (.inr ⟨_, _, _, rfl, rfl, rfl, rfl⟩) rfl rfl rfl ?_
      refine AtL.load tf_flat22 (.inr ⟨_, _, _, rfl, rfl, rfl, rfl⟩) rfl rfl (Cell.own 0 0 rfl rfl rfl) ?_
      refine AtL.lenL Tryz.underlying22 (.inr ⟨_, _, _, rfl, rfl, rfl, rfl⟩) rfl rfl ?_
      refine AtL.gtr (.inr ⟨_, _, _, rfl, rfl, rfl, rfl⟩) rfl rfl rfl ?_
      refine AtL.pickF (.inl rfl) rfl rfl rfl ?_
      exact J _ (by exact ⟨(boolIs (by clear J; first | (simp [hs6]; done) | (simp_all; done) | grind)), trivial⟩)
  · skip
    refine AtL.assign (.inl rfl) rfl rfl ?_
    refine AtL.done ?_
    refine At.pick (H' := H) [] 1 rfl rfl ?_
    exact At.ret Tryz.func47 rfl rfl (⟨_, rfl, fun hf => by
        have hf := of_decide_eq_false hf
        simp only [not_or, Bool.not_eq_true] at hf
        have hl := hlong hf.1
        exact ⟨by omega, hl.2, by omega⟩, rfl⟩)

set_option maxHeartbeats 400000 in
theorem plain_ok {w0 : World} {base : Nat} {H : List Seg} (st : Int) (kp : Bool) :
    SCalls Tryz.prog 46 [.int .i64 st, .bool kp] w0 base (H) (fun v H' => ∃ (x : Sl tyField 52) (y : Sl tyB 5), x.l = [(([67, 111, 110, 116, 101, 110, 116, 45, 84, 121, 112, 101] : List UInt8), ([116, 101, 120, 116, 47, 112, 108, 97, 105, 110] : List UInt8))] ∧ y.l = reasonF st ++ [10] ∧ v = .agg #[int st, .slice x.A x.l.length x.C, .slice y.A y.l.length y.C, .bool kp] ∧ H' = x.s :: y.s :: H) := by
  refine SCalls.of_walk (n := 14) Tryz.func46 rfl rfl rfl fun cs => ?_
  refine At.seq ?_
  refine At.region ?_
  refine AtL.alloc tf_zero42 (cs := #[.int .i64 0, .slice none 0 0, .slice none 0 0, .bool false]) rfl (.inl rfl) rfl ?_
  intro b1
  refine AtL.done ?_
  refine At.seq ?_
  refine At.region ?_
  refine AtL.move (.inl rfl) rfl rfl ?_
  refine AtL.build (cs := [str [67, 111, 110, 116, 101, 110, 116, 45, 84, 121, 112, 101], str [116, 101, 120, 116, 47, 112, 108, 97, 105, 110]]) tf_lay52 (.inl rfl) rfl rfl rfl ?_
  refine AtL.buildSlice (cs := [str [67, 111, 110, 116, 101, 110, 116, 45, 84, 121, 112, 101], str [116, 101, 120, 116, 47, 112, 108, 97, 105, 110]]) Tryz.underlying33 tf_zero52 tf_sz52 rfl rfl (.inl rfl) rfl rfl rfl ?_
  intro b2
  refine AtL.own1 tyField (l := ([(([67, 111, 110, 116, 101, 110, 116, 45, 84, 121, 112, 101] : List UInt8), ([116, 101, 120, 116, 47, 112, 108, 97, 105, 110] : List UInt8))] : List (List UInt8 × List UInt8))) rfl rfl (by first | decide | simp) ?_
  intro s3 o4
  refine AtL.move (.inl rfl) rfl rfl ?_
  refine AtL.call tf_body90 (.inl rfl) rfl rfl (reason_ok st) ?_
  rintro _ _ ⟨rfl, rfl⟩
  refine AtL.cat (.inl rfl) rfl rfl rfl (by have := reasonF_len st; simp only [List.length_append, List.length_cons, List.length_nil]; omega) ?_
  refine AtL.bytesOf (l := (reasonF st) ++ [10]) Tryz.underlying9 Tryz.underlying22 Tryz.underlying5 (by have := reasonF_len st; simp only [List.length_append, List.length_cons, List.length_nil]; omega) (.inl rfl) rfl rfl ?_
  intro A5 C6 s7 n9 o8
  refine AtL.move (.inl rfl) rfl rfl ?_
  refine AtL.build (cs := [.int .i64 st, .slice (some ⟨b2, 0, none⟩) ([(([67, 111, 110, 116, 101, 110, 116, 45, 84, 121, 112, 101] : List UInt8), ([116, 101, 120, 116, 47, 112, 108, 97, 105, 110] : List UInt8))]).length 1, .slice A5 ((reasonF st) ++ [10]).length C6, .bool kp]) tf_lay42 (.inl rfl) rfl rfl rfl ?_
  refine AtL.store (H' := s7 :: s3 :: [(b1, .cells #[.int .i64 st, .slice (some ⟨b2, 0, none⟩) ([(([67, 111, 110, 116, 101, 110, 116, 45, 84, 121, 112, 101] : List UInt8), ([116, 101, 120, 116, 47, 112, 108, 97, 105, 110] : List UInt8))]).length 1, .slice A5 ((reasonF st) ++ [10]).length C6, .bool kp] 42 (0, 0))] :: H) 2 0 tf_sz42 (.inl rfl) rfl rfl rfl rfl rfl rfl rfl rfl rfl ?_
  refine AtL.done ?_
  exact At.retMP (vs := [.agg #[.int .i64 st, .slice (some ⟨b2, 0, none⟩) ([(([67, 111, 110, 116, 101, 110, 116, 45, 84, 121, 112, 101] : List UInt8), ([116, 101, 120, 116, 47, 112, 108, 97, 105, 110] : List UInt8))]).length 1, .slice A5 ((reasonF st) ++ [10]).length C6, .bool kp]]) (H2 := s3 :: s7 :: H) [1, 0] 3 rfl rfl Tryz.func46 rfl ⟨⟨_, rfl, LoadsTo.agg (cs := [.int .i64 st, .slice (some ⟨b2, 0, none⟩) ([(([67, 111, 110, 116, 101, 110, 116, 45, 84, 121, 112, 101] : List UInt8), ([116, 101, 120, 116, 47, 112, 108, 97, 105, 110] : List UInt8))]).length 1, .slice A5 ((reasonF st) ++ [10]).length C6, .bool kp]) tf_agg42 rfl (cellsOwn 2 0 0 rfl rfl rfl)⟩, trivial⟩ (⟨⟨(some ⟨b2, 0, none⟩), 1, [(([67, 111, 110, 116, 101, 110, 116, 45, 84, 121, 112, 101] : List UInt8), ([116, 101, 120, 116, 47, 112, 108, 97, 105, 110] : List UInt8))], s3, o4⟩, ⟨A5, C6, (reasonF st) ++ [10], s7, o8⟩, rfl, rfl, rfl, rfl⟩)

set_option maxHeartbeats 400000 in
theorem ab_ok {w0 : World} {base : Nat} {H : List Seg}  :
    SCalls Tryz.prog 44 [] w0 base (H) (fun v H' => ∃ (x : Sl tyField 52) (y : Sl tyB 5), x.l = [([97], [98])] ∧ y.l = [120] ∧ v = .agg #[int 200, .slice x.A x.l.length x.C, .slice y.A y.l.length y.C, .bool true] ∧ H' = x.s :: y.s :: H) := by
  refine SCalls.of_walk (n := 6) Tryz.func44 rfl rfl rfl fun cs => ?_
  refine At.seq ?_
  refine At.region ?_
  refine AtL.alloc tf_zero42 (cs := #[.int .i64 0, .slice none 0 0, .slice none 0 0, .bool false]) rfl (.inl rfl) rfl ?_
  intro b1
  refine AtL.done ?_
  refine At.seq ?_
  refine At.region ?_
  refine AtL.build (cs := [str [97], str [98]]) tf_lay52 (.inl rfl) rfl rfl rfl ?_
  refine AtL.buildSlice (cs := [str [97], str [98]]) Tryz.underlying33 tf_zero52 tf_sz52 rfl rfl (.inl rfl) rfl rfl rfl ?_
  intro b2
  refine AtL.own1 tyField (l := ([(([97] : List UInt8), ([98] : List UInt8))] : List (List UInt8 × List UInt8))) rfl rfl (by first | decide | simp) ?_
  intro s3 o4
  refine AtL.buildSlice (cs := [.int .u8 120]) Tryz.underlying22 tf_zero5 tf_sz5 rfl rfl (.inl rfl) rfl rfl rfl ?_
  intro b5
  refine AtL.convSl1 (l := [120]) 0 Tryz.underlying22 Tryz.underlying5 rfl rfl rfl (by decide) (.inl rfl) rfl rfl ?_
  intro s6 o7
  refine AtL.build (cs := [.int .i64 200, .slice (some ⟨b2, 0, none⟩) ([(([97] : List UInt8), ([98] : List UInt8))]).length 1, .slice (some ⟨b5, 0, none⟩) [120].length 1, .bool true]) tf_lay42 (.inl rfl) rfl rfl rfl ?_
  refine AtL.store (H' := s6 :: s3 :: [(b1, .cells #[.int .i64 200, .slice (some ⟨b2, 0, none⟩) ([(([97] : List UInt8), ([98] : List UInt8))]).length 1, .slice (some ⟨b5, 0, none⟩) [120].length 1, .bool true] 42 (0, 0))] :: H) 2 0 tf_sz42 (.inl rfl) rfl rfl rfl rfl rfl rfl rfl rfl rfl ?_
  refine AtL.done ?_
  exact At.retMP (vs := [.agg #[.int .i64 200, .slice (some ⟨b2, 0, none⟩) ([(([97] : List UInt8), ([98] : List UInt8))]).length 1, .slice (some ⟨b5, 0, none⟩) [120].length 1, .bool true]]) (H2 := s3 :: s6 :: H) [1, 0] 3 rfl rfl Tryz.func44 rfl ⟨⟨_, rfl, LoadsTo.agg (cs := [.int .i64 200, .slice (some ⟨b2, 0, none⟩) ([(([97] : List UInt8), ([98] : List UInt8))]).length 1, .slice (some ⟨b5, 0, none⟩) [120].length 1, .bool true]) tf_agg42 rfl (cellsOwn 2 0 0 rfl rfl rfl)⟩, trivial⟩ (⟨⟨(some ⟨b2, 0, none⟩), 1, [(([97] : List UInt8), ([98] : List UInt8))], s3, o4⟩, ⟨(some ⟨b5, 0, none⟩), 1, [120], s6, o7⟩, rfl, rfl, rfl, rfl⟩)

theorem dig200 : decF 200 = [50, 48, 48] := by rw [decF, if_neg (by decide), decF, if_neg (by decide), decF, if_pos (by decide)]; decide

theorem dig1 : decF 1 = [49] := by rw [decF, if_pos (by decide)]; decide

theorem rk1 : respE ⟨200, [(([97] : List UInt8), ([98] : List UInt8))], ([120] : List UInt8), true⟩ = 0 ∧ respL ⟨200, [(([97] : List UInt8), ([98] : List UInt8))], ([120] : List UInt8), true⟩ = [72, 84, 84, 80, 47, 49, 46, 49, 32, 50, 48, 48, 32, 79, 75, 13, 10, 97, 58, 32, 98, 13, 10, 67, 111, 110, 116, 101, 110, 116, 45, 76, 101, 110, 103, 116, 104, 58, 32, 49, 13, 10, 13, 10, 120] := by
  have h : respE ⟨200, [(([97] : List UInt8), ([98] : List UInt8))], ([120] : List UInt8), true⟩ = 0 := by decide +kernel
  refine ⟨h, ?_⟩
  rw [(resp_good h).1]
  simp only [respB, headR, stB, lenB]
  rw [show (200 : Int).toNat = 200 from rfl, dig200, show ((([120] : List UInt8) : List UInt8)).length = 1 from rfl, dig1]
  decide +kernel

theorem write_known {w0 : World} {base : Nat} {H : List Seg} {st : Int} {A A2 : Option Addr} {C C2 : Nat} {fs : List (List UInt8 × List UInt8)} {b : List UInt8} {kp : Bool} {L : List UInt8} (hk : respE ⟨st, fs, b, kp⟩ = 0 ∧ respL ⟨st, fs, b, kp⟩ = L) (h : Rd tyField w0 base H A C fs) (h2 : Rd tyB w0 base H A2 C2 b) (hb : ∀ f ∈ fs, f.1.length ≤ 140737488355000 ∧ f.2.length ≤ 140737488355000) (T10 : Tab10 w0 base) :
    SCalls Tryz.prog 42 [.agg #[int st, .slice A fs.length C, .slice A2 b.length C2, .bool kp]] w0 base H (fun v H' => ∃ x : Sl tyB 5, x.l = L ∧ v = .tuple #[.slice x.A x.l.length x.C, int 0] ∧ H' = x.s :: H) := by
  refine (rwrite_okP (st := st) (kp := kp) h h2 hb T10).mono ?_
  rintro v H' ⟨x, hx, rfl, rfl⟩
  rw [hk.1]
  exact ⟨x, hx.trans hk.2, rfl, rfl⟩
theorem sb1 : ∀ f ∈ ([(([97] : List UInt8), ([98] : List UInt8))] : List Fld), f.1.length ≤ 140737488355000 ∧ f.2.length ≤ 140737488355000 := by decide +kernel

theorem rs404 : reasonF 404 = [78, 111, 116, 32, 70, 111, 117, 110, 100] := by decide

set_option maxHeartbeats 400000 in
theorem awake15_ok {w0 : World} {base : Nat} {H : List Seg} (T10 : Tab10 w0 base) :
    SCalls Tryz.prog 38 [] w0 base (H) (fun v H' => v = .bool true ∧ H' = H) := by
  refine SCalls.of_walk (n := 19) Tryz.func38 rfl rfl rfl fun cs => ?_
  refine At.seq ?_
  refine At.region ?_
  refine AtL.assign (.inl rfl) rfl rfl ?_
  refine AtL.done ?_
  refine At.seq ?_
  refine At.region ?_
  refine AtL.call tf_body44 (.inl rfl) rfl rfl ab_ok ?_
  rintro _ _ ⟨⟨A1, C2, l3, s4, o5⟩, ⟨A6, C7, l8, s9, o10⟩, hx11, hx12, rfl, rfl⟩
  obtain rfl : [(([97] : List UInt8), ([98] : List UInt8))] = l3 := hx11.symm
  obtain rfl : ([120] : List UInt8) = l8 := hx12.symm
  refine AtL.call tf_body42 (.inl rfl) rfl rfl (write_known rk1 (o5.rd (i := 0) rfl) (o10.rd (i := 1) rfl) sb1 T10) ?_
  rintro _ _ ⟨⟨A13, C14, l15, s16, o17⟩, hx18, rfl, rfl⟩
  obtain rfl : [72, 84, 84, 80, 47, 49, 46, 49, 32, 50, 48, 48, 32, 79, 75, 13, 10, 97, 58, 32, 98, 13, 10, 67, 111, 110, 116, 101, 110, 116, 45, 76, 101, 110, 103, 116, 104, 58, 32, 49, 13, 10, 13, 10, 120] = l15 := hx18.symm
  refine AtL.move (.inl rfl) rfl rfl ?_
  refine AtL.extract (.inl rfl) rfl rfl rfl ?_
  refine AtL.extract (.inl rfl) rfl rfl rfl ?_
  refine AtL.assign (.inl rfl) rfl rfl ?_
  refine AtL.assign (.inl rfl) rfl rfl ?_
  refine AtL.done ?_
  refine At.seq ?_
  refine At.region ?_
  refine AtL.move (.inl rfl) rfl rfl ?_
  refine AtL.eqi (.inl rfl) rfl rfl rfl ?_
  refine AtL.move (.inl rfl) rfl rfl ?_
  refine AtL.move (.inr ⟨_, _, _, rfl, rfl, rfl, rfl⟩) rfl rfl ?_
  refine AtL.strOf (o17.rd (i := 0) rfl) Tryz.underlying22 Tryz.underlying5 Tryz.underlying9 (.inr ⟨_, _, _, rfl, rfl, rfl, rfl⟩) rfl rfl ?_
  refine AtL.eqs (a := [72, 84, 84, 80, 47, 49, 46, 49, 32, 50, 48, 48, 32, 79, 75, 13, 10, 97, 58, 32, 98, 13, 10, 67, 111, 110, 116, 101, 110, 116, 45, 76, 101, 110, 103, 116, 104, 58, 32, 49, 13, 10, 13, 10, 120]) (b := [72, 84, 84, 80, 47, 49, 46, 49, 32, 50, 48, 48, 32, 79, 75, 13, 10, 97, 58, 32, 98, 13, 10, 67, 111, 110, 116, 101, 110, 116, 45, 76, 101, 110, 103, 116, 104, 58, 32, 49, 13, 10, 13, 10, 120]) (.inr ⟨_, _, _, rfl, rfl, rfl, rfl⟩) rfl rfl rfl ?_
  refine AtL.pickT (.inl rfl) rfl rfl rfl ?_
  refine AtL.move (.inl rfl) rfl rfl ?_
  refine AtL.join 3 (E' := [(18, .bool (decide ([78, 111, 116, 32, 70, 111, 117, 110, 100] = [78, 111, 116, 32, 70, 111, 117, 110, 100])))]) (H' := s16 :: s4 :: s9 :: H) (fun J => ?_) ?_
  · refine AtL.split (t := 15) rfl ?_ ?_
    · intro hs15
      have hs15 : [72, 84, 84, 80, 47, 49, 46, 49, 32, 50, 48, 48, 32, 79, 75, 13, 10, 97, 58, 32, 98, 13, 10, 67, 111, 110, 116, 101, 110, 116, 45, 76, 101, 110, 103, 116, 104, 58, 32, 49, 13, 10, 13, 10, 120] = [72, 84, 84, 80, 47, 49, 46, 49, 32, 50, 48, 48, 32, 79, 75, 13, 10, 97, 58, 32, 98, 13, 10, 67, 111, 110, 116, 101, 110, 116, 45, 76, 101, 110, 103, 116, 104, 58, 32, 49, 13, 10, 13, 10, 120] := of_decide_eq_true hs15
      refine AtL.call tf_body90 (.inr ⟨_, _, _, rfl, rfl, rfl, rfl⟩) rfl rfl ((reason_ok 404).mono (fun v H' h => by rw [rs404] at h; exact h)) ?_
      rintro _ _ ⟨rfl, rfl⟩
      refine AtL.eqs (a := [78, 111, 116, 32, 70, 111, 117, 110, 100]) (b := [78, 111, 116, 32, 70, 111, 117, 110, 100]) (.inr ⟨_, _, _, rfl, rfl, rfl, rfl⟩) rfl rfl rfl ?_
      refine AtL.pickT (.inl rfl) rfl rfl rfl ?_
      exact J _ (by exact ⟨(boolIs (by clear J; first | (simp [hs15]; done) | (simp_all; done) | grind)), trivial⟩)
    · intro hs15
      exact Bool.noConfusion (hs15.symm.trans (decide_eq_true rfl))
  · skip
    refine AtL.assign (.inl rfl) rfl rfl ?_
    refine AtL.done ?_
    refine At.pick (H' := H) [] 3 rfl rfl ?_
    exact At.ret Tryz.func38 rfl rfl (⟨rfl, rfl⟩)

end Go.Proofs.YtlfkoimkojbghaaGreatDoor
