/- Data of records: Least. -/
import Derived.Test.YtlkdmbpbjhjkfaaDoorY2
namespace Go.Proofs.YtlkdmbpbjhjkfaaDoor
set_option linter.unusedVariables false
set_option linter.unusedSimpArgs false
set_option maxRecDepth 100000

set_option maxHeartbeats 400000 in
theorem parts_ok {w0 : World} {base : Nat} {H : List Seg}  :
    SCalls Tryd.prog 59 [.int .i64 6] w0 base (H) (fun v H' => ∃ b : Nat, v = .tuple #[.slice (some ⟨b, 0, none⟩) 3 3, .bool true] ∧ H' = [(b, .cells #[.int .i64 0, .bool true, .bool false, .int .i64 0, .bool true, .bool false, .int .i64 20, .bool false, .bool false] 119 (0, 0))] :: H) := by
  refine SCalls.of_walk (n := 36) Tryd.func59 rfl rfl rfl fun cs => ?_
  refine At.seq ?_
  refine At.region ?_
  refine AtL.assign (.inl rfl) rfl rfl ?_
  refine AtL.assign (.inl rfl) rfl rfl ?_
  refine AtL.done ?_
  refine At.seq ?_
  refine At.region ?_
  refine AtL.build (cs := [.int .i64 0, .bool true, .bool false]) tf_lay119 (.inl rfl) rfl rfl rfl ?_
  refine AtL.alloc tf_zero119 (cs := #[.int .i64 0, .bool false, .bool false]) rfl (.inl rfl) rfl ?_
  intro b1
  refine AtL.store (H' := [(b1, .cells #[.int .i64 0, .bool true, .bool false] 119 (0, 0))] :: H) 0 0 tf_sz119 (.inl rfl) rfl rfl rfl rfl rfl rfl rfl rfl rfl ?_
  refine AtL.done ?_
  refine At.seq ?_
  refine At.region ?_
  refine AtL.makeMap kyI (fun x : Value => x) (.inl rfl) rfl ?_
  intro b2
  refine AtL.build (cs := [.int .i64 4, .bool false, .bool false]) tf_lay119 (.inl rfl) rfl rfl rfl ?_
  refine AtL.buildSlice (cs := [.int .i64 4, .bool false, .bool false]) Tryd.underlying110 tf_zero119 tf_sz119 rfl rfl (.inl rfl) rfl rfl rfl ?_
  intro b3
  refine AtL.insert (Q := kyI) (tv := (fun x : Value => x)) (a := 1) (v := (.slice (some ⟨b3, 0, none⟩) 1 1)) (H' := [(b3, .cells #[.int .i64 4, .bool false, .bool false] 119 (0, 0))] :: [(b2, mapO kyI (fun x : Value => x) ([(1, (.slice (some ⟨b3, 0, none⟩) 1 1))]))] :: [(b1, .cells #[.int .i64 0, .bool true, .bool false] 119 (0, 0))] :: H) 1 0 Tryd.underlying129 Tryd.underlying3 rfl (.inl rfl) rfl rfl (by first | decide | rfl) rfl rfl rfl rfl ?_
  refine AtL.build (cs := [.int .i64 16, .bool false, .bool false]) tf_lay119 (.inl rfl) rfl rfl rfl ?_
  refine AtL.buildSlice (cs := [.int .i64 16, .bool false, .bool false]) Tryd.underlying110 tf_zero119 tf_sz119 rfl rfl (.inl rfl) rfl rfl rfl ?_
  intro b4
  refine AtL.insert (Q := kyI) (tv := (fun x : Value => x)) (a := 28) (v := (.slice (some ⟨b4, 0, none⟩) 1 1)) (H' := [(b4, .cells #[.int .i64 16, .bool false, .bool false] 119 (0, 0))] :: [(b3, .cells #[.int .i64 4, .bool false, .bool false] 119 (0, 0))] :: [(b2, mapO kyI (fun x : Value => x) ([(1, (.slice (some ⟨b3, 0, none⟩) 1 1)), (28, (.slice (some ⟨b4, 0, none⟩) 1 1))]))] :: [(b1, .cells #[.int .i64 0, .bool true, .bool false] 119 (0, 0))] :: H) 2 0 Tryd.underlying129 Tryd.underlying3 rfl (.inl rfl) rfl rfl (by first | decide | rfl) rfl rfl rfl rfl ?_
  refine AtL.loadN (cs := [.int .i64 0, .bool true, .bool false]) tf_agg119 (.inl rfl) rfl rfl rfl (cellsOwn 3 0 0 rfl rfl rfl) ?_
  refine AtL.buildSlice (cs := [.int .i64 0, .bool true, .bool false]) Tryd.underlying110 tf_zero119 tf_sz119 rfl rfl (.inl rfl) rfl rfl rfl ?_
  intro b5
  refine AtL.insert (Q := kyI) (tv := (fun x : Value => x)) (a := 2) (v := (.slice (some ⟨b5, 0, none⟩) 1 1)) (H' := [(b5, .cells #[.int .i64 0, .bool true, .bool false] 119 (0, 0))] :: [(b4, .cells #[.int .i64 16, .bool false, .bool false] 119 (0, 0))] :: [(b3, .cells #[.int .i64 4, .bool false, .bool false] 119 (0, 0))] :: [(b2, mapO kyI (fun x : Value => x) ([(1, (.slice (some ⟨b3, 0, none⟩) 1 1)), (28, (.slice (some ⟨b4, 0, none⟩) 1 1)), (2, (.slice (some ⟨b5, 0, none⟩) 1 1))]))] :: [(b1, .cells #[.int .i64 0, .bool true, .bool false] 119 (0, 0))] :: H) 3 0 Tryd.underlying129 Tryd.underlying3 rfl (.inl rfl) rfl rfl (by first | decide | rfl) rfl rfl rfl rfl ?_
  refine AtL.loadN (cs := [.int .i64 0, .bool true, .bool false]) tf_agg119 (.inl rfl) rfl rfl rfl (cellsOwn 4 0 0 rfl rfl rfl) ?_
  refine AtL.buildSlice (cs := [.int .i64 0, .bool true, .bool false]) Tryd.underlying110 tf_zero119 tf_sz119 rfl rfl (.inl rfl) rfl rfl rfl ?_
  intro b6
  refine AtL.insert (Q := kyI) (tv := (fun x : Value => x)) (a := 5) (v := (.slice (some ⟨b6, 0, none⟩) 1 1)) (H' := [(b6, .cells #[.int .i64 0, .bool true, .bool false] 119 (0, 0))] :: [(b5, .cells #[.int .i64 0, .bool true, .bool false] 119 (0, 0))] :: [(b4, .cells #[.int .i64 16, .bool false, .bool false] 119 (0, 0))] :: [(b3, .cells #[.int .i64 4, .bool false, .bool false] 119 (0, 0))] :: [(b2, mapO kyI (fun x : Value => x) ([(1, (.slice (some ⟨b3, 0, none⟩) 1 1)), (28, (.slice (some ⟨b4, 0, none⟩) 1 1)), (2, (.slice (some ⟨b5, 0, none⟩) 1 1)), (5, (.slice (some ⟨b6, 0, none⟩) 1 1))]))] :: [(b1, .cells #[.int .i64 0, .bool true, .bool false] 119 (0, 0))] :: H) 4 0 Tryd.underlying129 Tryd.underlying3 rfl (.inl rfl) rfl rfl (by first | decide | rfl) rfl rfl rfl rfl ?_
  refine AtL.loadN (cs := [.int .i64 0, .bool true, .bool false]) tf_agg119 (.inl rfl) rfl rfl rfl (cellsOwn 5 0 0 rfl rfl rfl) ?_
  refine AtL.buildSlice (cs := [.int .i64 0, .bool true, .bool false]) Tryd.underlying110 tf_zero119 tf_sz119 rfl rfl (.inl rfl) rfl rfl rfl ?_
  intro b7
  refine AtL.insert (Q := kyI) (tv := (fun x : Value => x)) (a := 12) (v := (.slice (some ⟨b7, 0, none⟩) 1 1)) (H' := [(b7, .cells #[.int .i64 0, .bool true, .bool false] 119 (0, 0))] :: [(b6, .cells #[.int .i64 0, .bool true, .bool false] 119 (0, 0))] :: [(b5, .cells #[.int .i64 0, .bool true, .bool false] 119 (0, 0))] :: [(b4, .cells #[.int .i64 16, .bool false, .bool false] 119 (0, 0))] :: [(b3, .cells #[.int .i64 4, .bool false, .bool false] 119 (0, 0))] :: [(b2, mapO kyI (fun x : Value => x) ([(1, (.slice (some ⟨b3, 0, none⟩) 1 1)), (28, (.slice (some ⟨b4, 0, none⟩) 1 1)), (2, (.slice (some ⟨b5, 0, none⟩) 1 1)), (5, (.slice (some ⟨b6, 0, none⟩) 1 1)), (12, (.slice (some ⟨b7, 0, none⟩) 1 1))]))] :: [(b1, .cells #[.int .i64 0, .bool true, .bool false] 119 (0, 0))] :: H) 5 0 Tryd.underlying129 Tryd.underlying3 rfl (.inl rfl) rfl rfl (by first | decide | rfl) rfl rfl rfl rfl ?_
  refine AtL.build (cs := [.int .i64 2, .bool false, .bool false]) tf_lay119 (.inl rfl) rfl rfl rfl ?_
  refine AtL.loadN (cs := [.int .i64 0, .bool true, .bool false]) tf_agg119 (.inl rfl) rfl rfl rfl (cellsOwn 6 0 0 rfl rfl rfl) ?_
  refine AtL.buildSlice (cs := [.int .i64 2, .bool false, .bool false, .int .i64 0, .bool true, .bool false]) Tryd.underlying110 tf_zero119 tf_sz119 rfl rfl (.inl rfl) rfl rfl rfl ?_
  intro b8
  refine AtL.insert (Q := kyI) (tv := (fun x : Value => x)) (a := 15) (v := (.slice (some ⟨b8, 0, none⟩) 2 2)) (H' := [(b8, .cells #[.int .i64 2, .bool false, .bool false, .int .i64 0, .bool true, .bool false] 119 (0, 0))] :: [(b7, .cells #[.int .i64 0, .bool true, .bool false] 119 (0, 0))] :: [(b6, .cells #[.int .i64 0, .bool true, .bool false] 119 (0, 0))] :: [(b5, .cells #[.int .i64 0, .bool true, .bool false] 119 (0, 0))] :: [(b4, .cells #[.int .i64 16, .bool false, .bool false] 119 (0, 0))] :: [(b3, .cells #[.int .i64 4, .bool false, .bool false] 119 (0, 0))] :: [(b2, mapO kyI (fun x : Value => x) ([(1, (.slice (some ⟨b3, 0, none⟩) 1 1)), (28, (.slice (some ⟨b4, 0, none⟩) 1 1)), (2, (.slice (some ⟨b5, 0, none⟩) 1 1)), (5, (.slice (some ⟨b6, 0, none⟩) 1 1)), (12, (.slice (some ⟨b7, 0, none⟩) 1 1)), (15, (.slice (some ⟨b8, 0, none⟩) 2 2))]))] :: [(b1, .cells #[.int .i64 0, .bool true, .bool false] 119 (0, 0))] :: H) 6 0 Tryd.underlying129 Tryd.underlying3 rfl (.inl rfl) rfl rfl (by first | decide | rfl) rfl rfl rfl rfl ?_
  refine AtL.loadN (cs := [.int .i64 0, .bool true, .bool false]) tf_agg119 (.inl rfl) rfl rfl rfl (cellsOwn 7 0 0 rfl rfl rfl) ?_
  refine AtL.loadN (cs := [.int .i64 0, .bool true, .bool false]) tf_agg119 (.inl rfl) rfl rfl rfl (cellsOwn 7 0 0 rfl rfl rfl) ?_
  refine AtL.build (cs := [.int .i64 20, .bool false, .bool false]) tf_lay119 (.inl rfl) rfl rfl rfl ?_
  refine AtL.buildSlice (cs := [.int .i64 0, .bool true, .bool false, .int .i64 0, .bool true, .bool false, .int .i64 20, .bool false, .bool false]) Tryd.underlying110 tf_zero119 tf_sz119 rfl rfl (.inl rfl) rfl rfl rfl ?_
  intro b9
  refine AtL.insert (Q := kyI) (tv := (fun x : Value => x)) (a := 6) (v := (.slice (some ⟨b9, 0, none⟩) 3 3)) (H' := [(b9, .cells #[.int .i64 0, .bool true, .bool false, .int .i64 0, .bool true, .bool false, .int .i64 20, .bool false, .bool false] 119 (0, 0))] :: [(b8, .cells #[.int .i64 2, .bool false, .bool false, .int .i64 0, .bool true, .bool false] 119 (0, 0))] :: [(b7, .cells #[.int .i64 0, .bool true, .bool false] 119 (0, 0))] :: [(b6, .cells #[.int .i64 0, .bool true, .bool false] 119 (0, 0))] :: [(b5, .cells #[.int .i64 0, .bool true, .bool false] 119 (0, 0))] :: [(b4, .cells #[.int .i64 16, .bool false, .bool false] 119 (0, 0))] :: [(b3, .cells #[.int .i64 4, .bool false, .bool false] 119 (0, 0))] :: [(b2, mapO kyI (fun x : Value => x) ([(1, (.slice (some ⟨b3, 0, none⟩) 1 1)), (28, (.slice (some ⟨b4, 0, none⟩) 1 1)), (2, (.slice (some ⟨b5, 0, none⟩) 1 1)), (5, (.slice (some ⟨b6, 0, none⟩) 1 1)), (12, (.slice (some ⟨b7, 0, none⟩) 1 1)), (15, (.slice (some ⟨b8, 0, none⟩) 2 2)), (6, (.slice (some ⟨b9, 0, none⟩) 3 3))]))] :: [(b1, .cells #[.int .i64 0, .bool true, .bool false] 119 (0, 0))] :: H) 7 0 Tryd.underlying129 Tryd.underlying3 rfl (.inl rfl) rfl rfl (by first | decide | rfl) rfl rfl rfl rfl ?_
  refine AtL.build (cs := [.int .i64 0, .bool false, .bool true]) tf_lay119 (.inl rfl) rfl rfl rfl ?_
  refine AtL.buildSlice (cs := [.int .i64 0, .bool false, .bool true]) Tryd.underlying110 tf_zero119 tf_sz119 rfl rfl (.inl rfl) rfl rfl rfl ?_
  intro b10
  refine AtL.insert (Q := kyI) (tv := (fun x : Value => x)) (a := 16) (v := (.slice (some ⟨b10, 0, none⟩) 1 1)) (H' := [(b10, .cells #[.int .i64 0, .bool false, .bool true] 119 (0, 0))] :: [(b9, .cells #[.int .i64 0, .bool true, .bool false, .int .i64 0, .bool true, .bool false, .int .i64 20, .bool false, .bool false] 119 (0, 0))] :: [(b8, .cells #[.int .i64 2, .bool false, .bool false, .int .i64 0, .bool true, .bool false] 119 (0, 0))] :: [(b7, .cells #[.int .i64 0, .bool true, .bool false] 119 (0, 0))] :: [(b6, .cells #[.int .i64 0, .bool true, .bool false] 119 (0, 0))] :: [(b5, .cells #[.int .i64 0, .bool true, .bool false] 119 (0, 0))] :: [(b4, .cells #[.int .i64 16, .bool false, .bool false] 119 (0, 0))] :: [(b3, .cells #[.int .i64 4, .bool false, .bool false] 119 (0, 0))] :: [(b2, mapO kyI (fun x : Value => x) ([(1, (.slice (some ⟨b3, 0, none⟩) 1 1)), (28, (.slice (some ⟨b4, 0, none⟩) 1 1)), (2, (.slice (some ⟨b5, 0, none⟩) 1 1)), (5, (.slice (some ⟨b6, 0, none⟩) 1 1)), (12, (.slice (some ⟨b7, 0, none⟩) 1 1)), (15, (.slice (some ⟨b8, 0, none⟩) 2 2)), (6, (.slice (some ⟨b9, 0, none⟩) 3 3)), (16, (.slice (some ⟨b10, 0, none⟩) 1 1))]))] :: [(b1, .cells #[.int .i64 0, .bool true, .bool false] 119 (0, 0))] :: H) 8 0 Tryd.underlying129 Tryd.underlying3 rfl (.inl rfl) rfl rfl (by first | decide | rfl) rfl rfl rfl rfl ?_
  refine AtL.move (.inl rfl) rfl rfl ?_
  refine AtL.move (.inl rfl) rfl rfl ?_
  refine AtL.lookup (Q := kyI) (tv := (fun x : Value => x)) (a := 6) (v := .tuple #[.slice (some ⟨b9, 0, none⟩) 3 3, .bool true]) 8 0 Tryd.underlying129 Tryd.underlying3 rfl tf_zero110 (.inl rfl) rfl rfl rfl rfl rfl rfl ?_
  refine AtL.move (.inl rfl) rfl rfl ?_
  refine AtL.extract (.inl rfl) rfl rfl rfl ?_
  refine AtL.extract (.inl rfl) rfl rfl rfl ?_
  refine AtL.assign (.inl rfl) rfl rfl ?_
  refine AtL.assign (.inl rfl) rfl rfl ?_
  refine AtL.done ?_
  refine At.seq ?_
  refine At.region ?_
  refine AtL.move (.inl rfl) rfl rfl ?_
  refine AtL.move (.inl rfl) rfl rfl ?_
  refine AtL.assign (.inl rfl) rfl rfl ?_
  refine AtL.assign (.inl rfl) rfl rfl ?_
  refine AtL.done ?_
  refine At.pick (H' := [(b9, .cells #[.int .i64 0, .bool true, .bool false, .int .i64 0, .bool true, .bool false, .int .i64 20, .bool false, .bool false] 119 (0, 0))] :: H) [1] 10 rfl rfl ?_
  exact At.ret Tryd.func59 rfl rfl (⟨b9, rfl, rfl⟩)

set_option maxHeartbeats 400000 in
theorem first_ok {w0 : World} {base : Nat} {H : List Seg} (s : List UInt8) (hs : s.length ≤ 140737488355328) :
    PCalls Tryd.prog 62 [str s] w0 base (H) (fun v H' => ∃ l : List UInt8, l.length ≤ s.length ∧ v = str l ∧ H' = H) (fun ch H' => ch = [{ v := .iface 116 (.agg #[]), recovered := false }] ∧ H' = H) := by
  refine PCalls.of_walk (n := 34) Tryd.func62 rfl rfl rfl fun cs => ?_
  refine At.seq ?_
  refine At.region ?_
  refine AtL.assign (.inl rfl) rfl rfl ?_
  refine AtL.done ?_
  refine At.seq ?_
  refine At.seq ?_
  refine At.region ?_
  refine AtL.assign (.inl rfl) rfl rfl ?_
  refine AtL.done ?_
  refine At.block ?_
  refine At.loop (fun (i : Nat) => [(0, str s), (2, str []), (3, .int .i64 (i : Int))]) (fun (i : Nat) => H) (fun (i : Nat) => i ≤ 600) (fun (i : Nat) => 600 - i) 0 (by omega) ⟨rfl, rfl, rfl, trivial⟩ rfl ?_
  rintro i hi ihL1
  have hbi := (s.getD i 0).toNat_lt
  refine At.seq ?_
  refine At.seq ?_
  refine At.region ?_
  refine AtL.move (.inl rfl) rfl rfl ?_
  refine AtL.move (.inl rfl) rfl rfl ?_
  refine AtL.lenS (l := s) Tryd.underlying9 (.inl rfl) rfl rfl ?_
  refine AtL.lss (.inl rfl) rfl rfl rfl ?_
  refine AtL.move (.inl rfl) rfl rfl ?_
  refine AtL.join 3 (E' := [(12, .bool (decide (((i : Int) < (s.length : Int)) ∧ ((i : Int) < 255)))), (0, str s), (2, str []), (3, .int .i64 (i : Int))]) (H' := H) (fun J => ?_) ?_
  · refine AtL.split (t := 9) rfl ?_ ?_
    · intro hs9
      have hs9 : (i : Int) < (s.length : Int) := of_decide_eq_true hs9
      refine AtL.move (.inr ⟨_, _, _, rfl, rfl, rfl, rfl⟩) rfl rfl ?_
      refine AtL.lss (.inr ⟨_, _, _, rfl, rfl, rfl, rfl⟩) rfl rfl rfl ?_
      refine AtL.pickT (.inl rfl) rfl rfl rfl ?_
      exact J _ (by exact ⟨(boolIs (by clear J; first | (simp [hs9]; done) | (simp_all; done) | grind)), rfl, rfl, rfl, trivial⟩)
    · intro hs9
      have hs9 : ¬ ((i : Int) < (s.length : Int)) := of_decide_eq_false hs9
      refine AtL.skipped rfl rfl rfl rfl rfl rfl ?_
      refine AtL.skipped rfl rfl rfl rfl rfl rfl ?_
      refine AtL.pickF (.inl rfl) rfl rfl rfl ?_
      exact J _ (by exact ⟨(boolIs (by clear J; first | (simp [hs9]; done) | (simp_all; done) | grind)), rfl, rfl, rfl, trivial⟩)
  · skip
    refine AtL.done ?_
    refine At.cond rfl ?_ ?_
    · intro hc1
      have hc1 : ((i : Int) < (s.length : Int)) ∧ ((i : Int) < 255) := of_decide_eq_true hc1
      refine At.skip ?_
      refine At.seq ?_
      refine At.block ?_
      refine At.seq ?_
      refine At.region ?_
      refine AtL.move (.inl rfl) rfl rfl ?_
      refine AtL.move (.inl rfl) rfl rfl ?_
      refine AtL.indexS (l := s) i rfl (by omega) Tryd.underlying9 (.inl rfl) rfl rfl rfl ?_
      refine AtL.eqi (.inl rfl) rfl rfl rfl ?_
      refine AtL.done ?_
      refine At.cond rfl ?_ ?_
      · intro hc2
        have hc2 : ((s.getD i 0).toNat : Int) = 0 := of_decide_eq_true hc2
        refine At.seq ?_
        refine At.seq ?_
        refine At.region ?_
        refine AtL.move (.inl rfl) rfl rfl ?_
        refine AtL.move (.inl rfl) rfl rfl ?_
        refine AtL.add (z := (i : Int) + 1) (.inl rfl) rfl rfl rfl (w64 (by omega) (by omega)) ?_
        refine AtL.sliceS (l := s) 0 (i + 1) rfl (evBound_some rfl rfl) (by omega) (by omega) Tryd.underlying9 (.inl rfl) rfl rfl ?_
        refine AtL.assign (.inl rfl) rfl rfl ?_
        refine AtL.done ?_
        refine At.seq ?_
        refine At.region ?_
        refine AtL.move (.inl rfl) rfl rfl ?_
        refine AtL.call tf_body68 (.inl rfl) rfl rfl (ncheck_ok (subl s 0 (i + 1)) (by rw [subl_len (by omega)]; omega)) ?_
        rintro _ _ ⟨e1, rfl, hHq⟩
        obtain rfl := hHq.symm
        refine AtL.eqi (.inl rfl) rfl rfl rfl ?_
        refine AtL.done ?_
        refine At.cond rfl ?_ ?_
        · intro hc3
          have hc3 : (e1 : Int) = 0 := of_decide_eq_true hc3
          refine At.seq ?_
          refine At.region ?_
          refine AtL.move (.inl rfl) rfl rfl ?_
          refine AtL.assign (.inl rfl) rfl rfl ?_
          refine AtL.done ?_
          refine At.toQ ?_
          exact At.ret Tryd.func62 rfl rfl (⟨subl s 0 (i + 1), by rw [subl_len (by omega)]; omega, rfl, rfl⟩)
        · intro hc3
          have hc3 : ¬ ((e1 : Int) = 0) := of_decide_eq_false hc3
          refine At.skip ?_
          refine At.exit rfl ?_
          refine At.region ?_
          refine AtL.build (cs := []) tf_lay116 (.inl rfl) rfl rfl rfl ?_
          refine AtL.makeIface Tryd.underlying116 rfl (.inl rfl) rfl rfl ?_
          refine AtL.panicV (.inl rfl) rfl ?_
          exact Un.panicQ Tryd.func62 (⟨rfl, rfl⟩)
      · intro hc2
        have hc2 : ¬ (((s.getD i 0).toNat : Int) = 0) := of_decide_eq_false hc2
        refine At.skip ?_
        refine At.inBlock ?_
        refine At.region ?_
        refine AtL.move (.inl rfl) rfl rfl ?_
        refine AtL.move (.inl rfl) rfl rfl ?_
        refine AtL.move (.inl rfl) rfl rfl ?_
        refine AtL.indexS (l := s) i rfl (by omega) Tryd.underlying9 (.inl rfl) rfl rfl rfl ?_
        have hB2 := u8_le (s.getD i 0)
        refine AtL.convInt (z := ((s.getD i 0).toNat : Int)) Tryd.underlying5 Tryd.underlying3 (.inl rfl) rfl rfl (u8_i64 _) ?_
        refine AtL.add (z := 1 + ((s.getD i 0).toNat : Int)) (.inl rfl) rfl rfl rfl (w64 (by omega) (by omega)) ?_
        refine AtL.add (z := (i : Int) + (1 + ((s.getD i 0).toNat : Int))) (.inl rfl) rfl rfl rfl (w64 (by omega) (by omega)) ?_
        refine AtL.assign (.inl rfl) rfl rfl ?_
        refine AtL.done ?_
        refine ihL1 (i + (1 + ((s.getD i 0).toNat))) (by omega) (by omega) _ ?_
        exact ⟨rfl, (by first | rfl | exact slLen (by simp []) | exact intEq (by omega) | exact intEq (by simp []) | exact slLen (by simp []; omega)), (by first | rfl | exact slLen (by simp []) | exact intEq (by omega) | exact intEq (by simp []) | exact slLen (by simp []; omega)), trivial⟩
    · intro hc1
      have hc1 : ¬ (((i : Int) < (s.length : Int)) ∧ ((i : Int) < 255)) := of_decide_eq_false hc1
      refine At.exit rfl ?_
      refine At.region ?_
      refine AtL.build (cs := []) tf_lay116 (.inl rfl) rfl rfl rfl ?_
      refine AtL.makeIface Tryd.underlying116 rfl (.inl rfl) rfl rfl ?_
      refine AtL.panicV (.inl rfl) rfl ?_
      exact Un.panicQ Tryd.func62 (⟨rfl, rfl⟩)

set_option maxHeartbeats 400000 in
theorem split1_ret {w0 : World} {base : Nat} {H : List Seg} {b c : Nat} {x y : Value} :
    DCalls Tryd.prog 60 [.pointer (some ⟨b, 0, none⟩), .pointer (some ⟨c, 0, none⟩)] w0 base ([(b, .cells #[x] 103 (0, 0))] :: [(c, .cells #[y] 4 (0, 0))] :: H) .returning (fun m' H' => m' = .returning ∧ H' = [(b, .cells #[x] 103 (0, 0))] :: [(c, .cells #[y] 4 (0, 0))] :: H) := by
  refine DCalls.of_walk (n := 15) Tryd.func60 rfl rfl rfl fun fr cs => ?_
  refine At.seq ?_
  refine At.region ?_
  refine AtL.recoverNone rfl ?_
  refine AtL.assign (.inl rfl) rfl rfl ?_
  refine AtL.done ?_
  refine At.seq ?_
  refine At.seq ?_
  refine At.region ?_
  refine AtL.move (.inl rfl) rfl rfl ?_
  refine AtL.typeAssert (u := .tuple #[.agg #[], .bool false]) (.inl rfl) rfl rfl (fun w => by kernel_rfl) ?_
  refine AtL.move (.inl rfl) rfl rfl ?_
  refine AtL.extract (.inl rfl) rfl rfl rfl ?_
  refine AtL.extract (.inl rfl) rfl rfl rfl ?_
  refine AtL.alloc tf_zero116 (cs := #[]) rfl (.inl rfl) rfl ?_
  intro b1
  refine AtL.store (H' := [(b1, .cells #[] 116 (0, 0))] :: [(b, .cells #[x] 103 (0, 0))] :: [(c, .cells #[y] 4 (0, 0))] :: H) 0 0 tf_sz116 (.inl rfl) rfl rfl rfl rfl rfl rfl rfl rfl rfl ?_
  refine AtL.assign (.inl rfl) rfl rfl ?_
  refine AtL.done ?_
  refine At.seq ?_
  refine At.region ?_
  refine AtL.move (.inl rfl) rfl rfl ?_
  refine AtL.done ?_
  refine At.condF rfl ?_
  refine At.skip ?_
  refine At.seq ?_
  refine At.region ?_
  refine AtL.move (.inl rfl) rfl rfl ?_
  refine AtL.neNilIface Tryd.underlying20 (.inl rfl) rfl rfl ?_
  refine AtL.done ?_
  refine At.condF rfl ?_
  refine At.skip ?_
  refine At.endU rfl ?_
  refine Un.pick (H' := [(b, .cells #[x] 103 (0, 0))] :: [(c, .cells #[y] 4 (0, 0))] :: H) [1, 2] 3 rfl rfl ?_
  exact Un.leftD (vs := []) Tryd.func60 rfl trivial (⟨rfl, rfl⟩)

set_option maxHeartbeats 400000 in
theorem split1_bad {w0 : World} {base : Nat} {H : List Seg} {b c : Nat} {x y : Value} :
    DCalls Tryd.prog 60 [.pointer (some ⟨b, 0, none⟩), .pointer (some ⟨c, 0, none⟩)] w0 base ([(b, .cells #[x] 103 (0, 0))] :: [(c, .cells #[y] 4 (0, 0))] :: H) (.panicking [{ v := .iface 116 (.agg #[]), recovered := false }]) (fun m' H' => m' = .returning ∧ H' = [(b, .cells #[.slice none 0 0] 103 (0, 0))] :: [(c, .cells #[.bool false] 4 (0, 0))] :: H) := by
  refine DCalls.of_walk (n := 15) Tryd.func60 rfl rfl rfl fun fr cs => ?_
  refine At.seq ?_
  refine At.region ?_
  refine AtL.recoverSome rfl ?_
  refine AtL.assign (.inl rfl) rfl rfl ?_
  refine AtL.done ?_
  refine At.seq ?_
  refine At.seq ?_
  refine At.region ?_
  refine AtL.move (.inl rfl) rfl rfl ?_
  refine AtL.typeAssert (u := .tuple #[.agg #[], .bool true]) (.inl rfl) rfl rfl (fun w => by kernel_rfl) ?_
  refine AtL.move (.inl rfl) rfl rfl ?_
  refine AtL.extract (.inl rfl) rfl rfl rfl ?_
  refine AtL.extract (.inl rfl) rfl rfl rfl ?_
  refine AtL.alloc tf_zero116 (cs := #[]) rfl (.inl rfl) rfl ?_
  intro b1
  refine AtL.store (H' := [(b1, .cells #[] 116 (0, 0))] :: [(b, .cells #[x] 103 (0, 0))] :: [(c, .cells #[y] 4 (0, 0))] :: H) 0 0 tf_sz116 (.inl rfl) rfl rfl rfl rfl rfl rfl rfl rfl rfl ?_
  refine AtL.assign (.inl rfl) rfl rfl ?_
  refine AtL.done ?_
  refine At.seq ?_
  refine At.region ?_
  refine AtL.move (.inl rfl) rfl rfl ?_
  refine AtL.done ?_
  refine At.condT rfl ?_
  refine At.seq ?_
  refine At.region ?_
  refine AtL.store (H' := [(b1, .cells #[] 116 (0, 0))] :: [(b, .cells #[.slice none 0 0] 103 (0, 0))] :: [(c, .cells #[y] 4 (0, 0))] :: H) 1 0 tf_sz103 (.inl rfl) rfl rfl rfl rfl rfl rfl rfl rfl rfl ?_
  refine AtL.store (H' := [(b1, .cells #[] 116 (0, 0))] :: [(b, .cells #[.slice none 0 0] 103 (0, 0))] :: [(c, .cells #[.bool false] 4 (0, 0))] :: H) 2 0 tf_sz4 (.inl rfl) rfl rfl rfl rfl rfl rfl rfl rfl rfl ?_
  refine AtL.done ?_
  refine At.retU rfl ?_
  refine Un.pick (H' := [(b, .cells #[.slice none 0 0] 103 (0, 0))] :: [(c, .cells #[.bool false] 4 (0, 0))] :: H) [1, 2] 3 rfl rfl ?_
  exact Un.leftD (vs := []) Tryd.func60 rfl trivial (⟨rfl, rfl⟩)

set_option maxHeartbeats 400000 in
theorem split_ok6 {w0 : World} {base : Nat} {H : List Seg} (s : List UInt8) (hs : s.length ≤ 140737488355328) :
    SCalls Tryd.prog 50 [.int .i64 6, str s] w0 base (H) (fun v H' => ∃ (v0 : Value) (b : Bool), v = .tuple #[v0, .bool b] ∧ H' = H) := by
  refine SCalls.of_walk (n := 72) Tryd.func50 rfl rfl rfl fun cs => ?_
  refine At.seq ?_
  refine At.region ?_
  refine AtL.alloc tf_zero103 (cs := #[.slice none 0 0]) rfl (.inl rfl) rfl ?_
  intro b1
  refine AtL.alloc tf_zero4 (cs := #[.bool false]) rfl (.inl rfl) rfl ?_
  intro b2
  refine AtL.done ?_
  refine At.seq ?_
  refine At.region ?_
  refine AtL.move (.inl rfl) rfl rfl ?_
  refine AtL.call tf_body59 (.inl rfl) rfl rfl parts_ok ?_
  rintro _ _ ⟨b3, rfl, rfl⟩
  refine AtL.move (.inl rfl) rfl rfl ?_
  refine AtL.extract (.inl rfl) rfl rfl rfl ?_
  refine AtL.extract (.inl rfl) rfl rfl rfl ?_
  refine AtL.assign (.inl rfl) rfl rfl ?_
  refine AtL.assign (.inl rfl) rfl rfl ?_
  refine AtL.done ?_
  refine At.seq ?_
  refine At.seq ?_
  refine At.region ?_
  refine AtL.move (.inl rfl) rfl rfl ?_
  refine AtL.not (.inl rfl) rfl rfl ?_
  refine AtL.done ?_
  refine At.condF rfl ?_
  refine At.skip ?_
  refine At.seq ?_
  refine At.region ?_
  refine AtL.makeFunc (.inl rfl) rfl rfl rfl ?_
  refine AtL.defer rfl (.inl rfl) rfl rfl rfl ?_
  refine AtL.done ?_
  refine At.seq ?_
  refine At.seq ?_
  refine At.region ?_
  refine AtL.move (.inl rfl) rfl rfl ?_
  refine AtL.lenL Tryd.underlying110 (.inl rfl) rfl rfl ?_
  refine AtL.move (.inl rfl) rfl rfl ?_
  refine AtL.done ?_
  refine At.block ?_
  refine At.unroll ?_
  refine At.seq ?_
  refine At.region ?_
  refine AtL.lss (.inl rfl) rfl rfl rfl ?_
  refine AtL.done ?_
  refine At.seq ?_
  refine At.condT rfl ?_
  refine At.skip ?_
  refine At.seq ?_
  refine At.block ?_
  refine At.seq ?_
  refine At.region ?_
  refine AtL.indexB 0 Tryd.underlying110 tf_sz119 (.inl rfl) rfl rfl rfl rfl rfl rfl ?_
  refine AtL.loadN (cs := [.int .i64 0, .bool true, .bool false]) tf_agg119 (.inl rfl) rfl rfl rfl (cellsOwn 0 0 0 rfl rfl rfl) ?_
  refine AtL.alloc tf_zero119 (cs := #[.int .i64 0, .bool false, .bool false]) rfl (.inl rfl) rfl ?_
  intro b4
  refine AtL.store (H' := [(b4, .cells #[.int .i64 0, .bool true, .bool false] 119 (0, 0))] :: [(b3, .cells #[.int .i64 0, .bool true, .bool false, .int .i64 0, .bool true, .bool false, .int .i64 20, .bool false, .bool false] 119 (0, 0))] :: [(b2, .cells #[.bool false] 4 (0, 0))] :: [(b1, .cells #[.slice none 0 0] 103 (0, 0))] :: H) 0 0 tf_sz119 (.inl rfl) rfl rfl rfl rfl rfl rfl rfl rfl rfl ?_
  refine AtL.done ?_
  refine At.seq ?_
  refine At.region ?_
  refine AtL.fieldAddrB tf_fo119_0 (.inl rfl) rfl rfl rfl ?_
  refine AtL.load tf_flat3 (.inl rfl) rfl rfl (Cell.own 0 0 rfl rfl rfl) ?_
  refine AtL.assign (.inl rfl) rfl rfl ?_
  refine AtL.done ?_
  refine At.seq ?_
  refine At.block ?_
  refine At.seq ?_
  refine At.region ?_
  refine AtL.fieldAddrB tf_fo119_2 (.inl rfl) rfl rfl rfl ?_
  refine AtL.load tf_flat4 (.inl rfl) rfl rfl (Cell.own 0 0 rfl rfl rfl) ?_
  refine AtL.move (.inl rfl) rfl rfl ?_
  refine AtL.skipped rfl rfl rfl rfl rfl rfl ?_
  refine AtL.skipped rfl rfl rfl rfl rfl rfl ?_
  refine AtL.pickF (.inl rfl) rfl rfl rfl ?_
  refine AtL.assign (.inl rfl) rfl rfl ?_
  refine AtL.done ?_
  refine At.condF rfl ?_
  refine At.seq ?_
  refine At.region ?_
  refine AtL.fieldAddrB tf_fo119_1 (.inl rfl) rfl rfl rfl ?_
  refine AtL.load tf_flat4 (.inl rfl) rfl rfl (Cell.own 0 0 rfl rfl rfl) ?_
  refine AtL.assign (.inl rfl) rfl rfl ?_
  refine AtL.done ?_
  refine At.condT rfl ?_
  refine At.region ?_
  refine AtL.move (.inl rfl) rfl rfl ?_
  refine AtL.callQ tf_body62 (.inl rfl) rfl rfl (first_ok s (by first | omega | (rw [subl_len (by omega)]; omega))) ?_ ?_
  · skip
    rintro _ _ ⟨rfl, rfl⟩
    refine Un.pick (H' := [(b1, .cells #[.slice none 0 0] 103 (0, 0))] :: [(b2, .cells #[.bool false] 4 (0, 0))] :: [(b4, .cells #[.int .i64 0, .bool true, .bool false] 119 (0, 0))] :: [(b3, .cells #[.int .i64 0, .bool true, .bool false, .int .i64 0, .bool true, .bool false, .int .i64 20, .bool false, .bool false] 119 (0, 0))] :: H) [3, 2, 0, 1] 4 rfl rfl ?_
    refine Un.defer tf_body60 rfl rfl split1_bad ?_
    rintro _ _ ⟨rfl, rfl⟩
    exact Un.leftP (vs := [.slice none 0 0, .bool false]) (H2 := H) [] 4 rfl rfl Tryd.func50 rfl ⟨⟨_, rfl, LoadsTo.flat tf_flat103 (Cell.own 0 0 rfl rfl rfl)⟩, ⟨_, rfl, LoadsTo.flat tf_flat4 (Cell.own 1 0 rfl rfl rfl)⟩, trivial⟩ (⟨_, _, rfl, rfl⟩)
  rintro _ _ ⟨l5, hl6, rfl, rfl⟩
  refine AtL.lenS (l := l5) Tryd.underlying9 (.inl rfl) rfl rfl ?_
  refine AtL.assign (.inl rfl) rfl rfl ?_
  refine AtL.done ?_
  refine At.inBlock ?_
  refine At.seq ?_
  refine At.nil ?_
  refine At.draw (es := [7, 8, 9]) (pv := [(0, .slice none 0 0), (1, str s), (2, .int .i64 (l5.length : Int)), (3, str (subl s 0 l5.length)), (4, .pointer (some ⟨b4, 1, none⟩)), (5, .bool true), (6, .agg #[str (subl s 0 l5.length), .bool true])]) tf_mixed (by kernel_rfl) (by kernel_rfl) (by kernel_rfl) ?_
  refine ⟨⟨.inr ⟨_, rfl, rfl, .inl ⟨rfl, Do.load tf_flat103 rfl (Cell.own 4 0 rfl rfl rfl)⟩⟩, .inr ⟨_, rfl, rfl, .inl ⟨rfl, Do.move rfl⟩⟩, .inr ⟨_, rfl, rfl, .inl ⟨rfl, Do.move rfl⟩⟩, .inr ⟨_, rfl, rfl, .inl ⟨rfl, Do.sliceS (l := s) 0 l5.length rfl (evBound_some rfl rfl) (by omega) (by omega) Tryd.underlying9 rfl⟩⟩, .inr ⟨_, rfl, rfl, .inl ⟨rfl, Do.fieldAddrB tf_fo119_1 rfl rfl⟩⟩, .inr ⟨_, rfl, rfl, .inl ⟨rfl, Do.load tf_flat4 rfl (Cell.own 1 0 rfl rfl rfl)⟩⟩, .inr ⟨_, rfl, rfl, .inl ⟨rfl, Do.build (cs := [str (subl s 0 l5.length), .bool true]) tf_lay114 rfl rfl⟩⟩, trivial⟩, rfl, rfl, by kernel_rfl, _, rfl, rfl, rfl, _, Do.own1 tyPiece (l := ([(subl s 0 l5.length, true)] : List (List UInt8 × Bool))) (Do.buildSlice (cs := [str (subl s 0 l5.length), .bool true]) Tryd.underlying103 tf_zero114 tf_sz114 rfl rfl rfl rfl) rfl rfl (by first | decide | simp), ?_⟩
  rintro _ _ ⟨b7, s8, o9, rfl, rfl⟩
  refine ⟨[], rfl, ?_⟩
  refine ⟨⟨.inr ⟨_, rfl, rfl, .inl ⟨rfl, Do.load tf_flat103 rfl (Cell.own 5 0 rfl rfl rfl)⟩⟩, .inl (by kernel_rfl), .inl (by kernel_rfl), .inl (by kernel_rfl), .inl (by kernel_rfl), .inl (by kernel_rfl), .inl (by kernel_rfl), trivial⟩, rfl, rfl, by kernel_rfl, _, rfl, rfl, rfl, _, Do.append (l := []) (news := [(subl s 0 l5.length, true)]) 1 tf_el103 rfl (Own.nil tyPiece 114) (o9.rd (i := 0) rfl) (by first | omega | (simp only [List.length_append, List.length_cons, List.length_nil]; omega) | (simp; done) | (simp; omega)) rfl rfl, ?_⟩
  rintro _ _ ⟨A10, C11, s12, o13, rfl, rfl⟩
  refine ⟨[], rfl, ?_⟩
  refine ⟨⟨.inl (by kernel_rfl), .inl (by kernel_rfl), .inl (by kernel_rfl), .inl (by kernel_rfl), .inl (by kernel_rfl), .inl (by kernel_rfl), .inl (by kernel_rfl), trivial⟩, rfl, rfl, by kernel_rfl, _, rfl, rfl, rfl, _, Do.store (H' := s8 :: s12 :: [(b4, .cells #[.int .i64 0, .bool true, .bool false] 119 (0, 0))] :: [(b3, .cells #[.int .i64 0, .bool true, .bool false, .int .i64 0, .bool true, .bool false, .int .i64 20, .bool false, .bool false] 119 (0, 0))] :: [(b2, .cells #[.bool false] 4 (0, 0))] :: [(b1, .cells #[.slice A10 ([] ++ [(subl s 0 l5.length, true)]).length C11] 103 (0, 0))] :: H) 5 0 tf_sz103 rfl rfl rfl rfl rfl rfl rfl rfl rfl, ?_⟩
  rintro _ _ ⟨rfl, rfl⟩
  refine ⟨[], rfl, ?_⟩
  refine ⟨⟨.inl (by kernel_rfl), .inl (by kernel_rfl), .inl (by kernel_rfl), .inl (by kernel_rfl), .inl (by kernel_rfl), .inl (by kernel_rfl), .inl (by kernel_rfl), trivial⟩, by kernel_rfl, ?_⟩
  refine At.mono (E' := [(1, str s), (4, .pointer (some ⟨b1, 0, none⟩)), (5, .pointer (some ⟨b2, 0, none⟩)), (10, .int .i64 (l5.length : Int)), (22, .slice (some ⟨b3, 0, none⟩) 3 3), (23, .int .i64 3), (24, .int .i64 0)]) ⟨rfl, rfl, rfl, rfl, rfl, rfl, rfl, trivial⟩ ?_
  refine At.region ?_
  refine AtL.move (.inl rfl) rfl rfl ?_
  refine AtL.move (.inl rfl) rfl rfl ?_
  refine AtL.sliceS (l := s) l5.length s.length (evBound_some rfl rfl) rfl (by omega) (by omega) Tryd.underlying9 (.inl rfl) rfl rfl ?_
  refine AtL.assign (.inl rfl) rfl rfl ?_
  refine AtL.done ?_
  refine At.inBlock ?_
  refine At.region ?_
  refine AtL.add (z := 1) (.inl rfl) rfl rfl rfl (by decide) ?_
  refine AtL.move (.inl rfl) rfl rfl ?_
  refine AtL.done ?_
  refine At.again ?_
  refine At.seq ?_
  refine At.region ?_
  refine AtL.lss (.inl rfl) rfl rfl rfl ?_
  refine AtL.done ?_
  refine At.seq ?_
  refine At.condT rfl ?_
  refine At.skip ?_
  refine At.seq ?_
  refine At.block ?_
  refine At.seq ?_
  refine At.region ?_
  refine AtL.indexB 1 Tryd.underlying110 tf_sz119 (.inl rfl) rfl rfl rfl rfl rfl rfl ?_
  refine AtL.loadN (cs := [.int .i64 0, .bool true, .bool false]) tf_agg119 (.inl rfl) rfl rfl rfl (cellsOwn 3 0 3 rfl rfl rfl) ?_
  refine AtL.alloc tf_zero119 (cs := #[.int .i64 0, .bool false, .bool false]) rfl (.inl rfl) rfl ?_
  intro b21
  refine AtL.store (H' := [(b21, .cells #[.int .i64 0, .bool true, .bool false] 119 (0, 0))] :: s8 :: s12 :: [(b4, .cells #[.int .i64 0, .bool true, .bool false] 119 (0, 0))] :: [(b3, .cells #[.int .i64 0, .bool true, .bool false, .int .i64 0, .bool true, .bool false, .int .i64 20, .bool false, .bool false] 119 (0, 0))] :: [(b2, .cells #[.bool false] 4 (0, 0))] :: [(b1, .cells #[.slice A10 ([] ++ [(subl s 0 l5.length, true)]).length C11] 103 (0, 0))] :: H) 0 0 tf_sz119 (.inl rfl) rfl rfl rfl rfl rfl rfl rfl rfl rfl ?_
  refine AtL.done ?_
  refine At.seq ?_
  refine At.region ?_
  refine AtL.fieldAddrB tf_fo119_0 (.inl rfl) rfl rfl rfl ?_
  refine AtL.load tf_flat3 (.inl rfl) rfl rfl (Cell.own 0 0 rfl rfl rfl) ?_
  refine AtL.assign (.inl rfl) rfl rfl ?_
  refine AtL.done ?_
  refine At.seq ?_
  refine At.block ?_
  refine At.seq ?_
  refine At.region ?_
  refine AtL.fieldAddrB tf_fo119_2 (.inl rfl) rfl rfl rfl ?_
  refine AtL.load tf_flat4 (.inl rfl) rfl rfl (Cell.own 0 0 rfl rfl rfl) ?_
  refine AtL.move (.inl rfl) rfl rfl ?_
  refine AtL.skipped rfl rfl rfl rfl rfl rfl ?_
  refine AtL.skipped rfl rfl rfl rfl rfl rfl ?_
  refine AtL.pickF (.inl rfl) rfl rfl rfl ?_
  refine AtL.assign (.inl rfl) rfl rfl ?_
  refine AtL.done ?_
  refine At.condF rfl ?_
  refine At.seq ?_
  refine At.region ?_
  refine AtL.fieldAddrB tf_fo119_1 (.inl rfl) rfl rfl rfl ?_
  refine AtL.load tf_flat4 (.inl rfl) rfl rfl (Cell.own 0 0 rfl rfl rfl) ?_
  refine AtL.assign (.inl rfl) rfl rfl ?_
  refine AtL.done ?_
  refine At.condT rfl ?_
  refine At.region ?_
  refine AtL.move (.inl rfl) rfl rfl ?_
  refine AtL.callQ tf_body62 (.inl rfl) rfl rfl (first_ok (subl s l5.length s.length) (by first | omega | (rw [subl_len (by omega)]; omega))) ?_ ?_
  · skip
    rintro _ _ ⟨rfl, rfl⟩
    refine Un.pick (H' := [(b1, .cells #[.slice A10 ([] ++ [(subl s 0 l5.length, true)]).length C11] 103 (0, 0))] :: [(b2, .cells #[.bool false] 4 (0, 0))] :: [(b21, .cells #[.int .i64 0, .bool true, .bool false] 119 (0, 0))] :: s8 :: s12 :: [(b4, .cells #[.int .i64 0, .bool true, .bool false] 119 (0, 0))] :: [(b3, .cells #[.int .i64 0, .bool true, .bool false, .int .i64 0, .bool true, .bool false, .int .i64 20, .bool false, .bool false] 119 (0, 0))] :: H) [6, 5, 0, 1, 2, 3, 4] 7 rfl rfl ?_
    refine Un.defer tf_body60 rfl rfl split1_bad ?_
    rintro _ _ ⟨rfl, rfl⟩
    exact Un.leftP (vs := [.slice none 0 0, .bool false]) (H2 := H) [] 7 rfl rfl Tryd.func50 rfl ⟨⟨_, rfl, LoadsTo.flat tf_flat103 (Cell.own 0 0 rfl rfl rfl)⟩, ⟨_, rfl, LoadsTo.flat tf_flat4 (Cell.own 1 0 rfl rfl rfl)⟩, trivial⟩ (⟨_, _, rfl, rfl⟩)
  rintro _ _ ⟨l22, hl23, rfl, rfl⟩
  refine AtL.lenS (l := l22) Tryd.underlying9 (.inl rfl) rfl rfl ?_
  refine AtL.assign (.inl rfl) rfl rfl ?_
  refine AtL.done ?_
  refine At.inBlock ?_
  refine At.seq ?_
  refine At.draw (es := [7, 8, 9]) (pv := [(0, .slice A10 ([] ++ [(subl s 0 l5.length, true)]).length C11), (1, str (subl s l5.length s.length)), (2, .int .i64 (l22.length : Int)), (3, str (subl (subl s l5.length s.length) 0 l22.length)), (4, .pointer (some ⟨b21, 1, none⟩)), (5, .bool true), (6, .agg #[str (subl (subl s l5.length s.length) 0 l22.length), .bool true])]) tf_mixed (by kernel_rfl) (by kernel_rfl) (by kernel_rfl) ?_
  refine ⟨⟨.inr ⟨_, rfl, rfl, .inl ⟨rfl, Do.load tf_flat103 rfl (Cell.own 6 0 rfl rfl rfl)⟩⟩, .inr ⟨_, rfl, rfl, .inl ⟨rfl, Do.move rfl⟩⟩, .inr ⟨_, rfl, rfl, .inl ⟨rfl, Do.move rfl⟩⟩, .inr ⟨_, rfl, rfl, .inl ⟨rfl, Do.sliceS (l := subl s l5.length s.length) 0 l22.length rfl (evBound_some rfl rfl) (by omega) (by omega) Tryd.underlying9 rfl⟩⟩, .inr ⟨_, rfl, rfl, .inl ⟨rfl, Do.fieldAddrB tf_fo119_1 rfl rfl⟩⟩, .inr ⟨_, rfl, rfl, .inl ⟨rfl, Do.load tf_flat4 rfl (Cell.own 0 0 rfl rfl rfl)⟩⟩, .inr ⟨_, rfl, rfl, .inl ⟨rfl, Do.build (cs := [str (subl (subl s l5.length s.length) 0 l22.length), .bool true]) tf_lay114 rfl rfl⟩⟩, trivial⟩, rfl, rfl, by kernel_rfl, _, rfl, rfl, rfl, _, Do.own1 tyPiece (l := ([(subl (subl s l5.length s.length) 0 l22.length, true)] : List (List UInt8 × Bool))) (Do.buildSlice (cs := [str (subl (subl s l5.length s.length) 0 l22.length), .bool true]) Tryd.underlying103 tf_zero114 tf_sz114 rfl rfl rfl rfl) rfl rfl (by first | decide | simp), ?_⟩
  rintro _ _ ⟨b24, s25, o26, rfl, rfl⟩
  refine ⟨[], rfl, ?_⟩
  refine ⟨⟨.inr ⟨_, rfl, rfl, .inl ⟨rfl, Do.load tf_flat103 rfl (Cell.own 7 0 rfl rfl rfl)⟩⟩, .inl (by kernel_rfl), .inl (by kernel_rfl), .inl (by kernel_rfl), .inl (by kernel_rfl), .inl (by kernel_rfl), .inl (by kernel_rfl), trivial⟩, rfl, rfl, by kernel_rfl, _, rfl, rfl, rfl, _, Do.append (l := [] ++ [(subl s 0 l5.length, true)]) (news := [(subl (subl s l5.length s.length) 0 l22.length, true)]) 3 tf_el103 rfl o13 (o26.rd (i := 0) rfl) (by first | omega | (simp only [List.length_append, List.length_cons, List.length_nil]; omega) | (simp; done) | (simp; omega)) rfl rfl, ?_⟩
  rintro _ _ ⟨A27, C28, s29, o30, rfl, rfl⟩
  refine ⟨[], rfl, ?_⟩
  refine ⟨⟨.inl (by kernel_rfl), .inl (by kernel_rfl), .inl (by kernel_rfl), .inl (by kernel_rfl), .inl (by kernel_rfl), .inl (by kernel_rfl), .inl (by kernel_rfl), trivial⟩, rfl, rfl, by kernel_rfl, _, rfl, rfl, rfl, _, Do.store (H' := s25 :: [(b21, .cells #[.int .i64 0, .bool true, .bool false] 119 (0, 0))] :: s8 :: s29 :: [(b4, .cells #[.int .i64 0, .bool true, .bool false] 119 (0, 0))] :: [(b3, .cells #[.int .i64 0, .bool true, .bool false, .int .i64 0, .bool true, .bool false, .int .i64 20, .bool false, .bool false] 119 (0, 0))] :: [(b2, .cells #[.bool false] 4 (0, 0))] :: [(b1, .cells #[.slice A27 (([] ++ [(subl s 0 l5.length, true)]) ++ [(subl (subl s l5.length s.length) 0 l22.length, true)]).length C28] 103 (0, 0))] :: H) 7 0 tf_sz103 rfl rfl rfl rfl rfl rfl rfl rfl rfl, ?_⟩
  rintro _ _ ⟨rfl, rfl⟩
  refine ⟨[], rfl, ?_⟩
  refine ⟨⟨.inl (by kernel_rfl), .inl (by kernel_rfl), .inl (by kernel_rfl), .inl (by kernel_rfl), .inl (by kernel_rfl), .inl (by kernel_rfl), .inl (by kernel_rfl), trivial⟩, by kernel_rfl, ?_⟩
  refine At.mono (E' := [(1, str (subl s l5.length s.length)), (4, .pointer (some ⟨b1, 0, none⟩)), (5, .pointer (some ⟨b2, 0, none⟩)), (10, .int .i64 (l22.length : Int)), (22, .slice (some ⟨b3, 0, none⟩) 3 3), (23, .int .i64 3), (24, .int .i64 1)]) ⟨rfl, rfl, rfl, rfl, rfl, rfl, rfl, trivial⟩ ?_
  refine At.region ?_
  refine AtL.move (.inl rfl) rfl rfl ?_
  refine AtL.move (.inl rfl) rfl rfl ?_
  refine AtL.sliceS (l := subl s l5.length s.length) l22.length (subl s l5.length s.length).length (evBound_some rfl rfl) rfl (by omega) (by omega) Tryd.underlying9 (.inl rfl) rfl rfl ?_
  refine AtL.assign (.inl rfl) rfl rfl ?_
  refine AtL.done ?_
  refine At.inBlock ?_
  refine At.region ?_
  refine AtL.add (z := 2) (.inl rfl) rfl rfl rfl (by decide) ?_
  refine AtL.move (.inl rfl) rfl rfl ?_
  refine AtL.done ?_
  refine At.again ?_
  refine At.seq ?_
  refine At.region ?_
  refine AtL.lss (.inl rfl) rfl rfl rfl ?_
  refine AtL.done ?_
  refine At.seq ?_
  refine At.condT rfl ?_
  refine At.skip ?_
  refine At.seq ?_
  refine At.block ?_
  refine At.seq ?_
  refine At.region ?_
  refine AtL.indexB 2 Tryd.underlying110 tf_sz119 (.inl rfl) rfl rfl rfl rfl rfl rfl ?_
  refine AtL.loadN (cs := [.int .i64 20, .bool false, .bool false]) tf_agg119 (.inl rfl) rfl rfl rfl (cellsOwn 5 0 6 rfl rfl rfl) ?_
  refine AtL.alloc tf_zero119 (cs := #[.int .i64 0, .bool false, .bool false]) rfl (.inl rfl) rfl ?_
  intro b38
  refine AtL.store (H' := [(b38, .cells #[.int .i64 20, .bool false, .bool false] 119 (0, 0))] :: s25 :: [(b21, .cells #[.int .i64 0, .bool true, .bool false] 119 (0, 0))] :: s8 :: s29 :: [(b4, .cells #[.int .i64 0, .bool true, .bool false] 119 (0, 0))] :: [(b3, .cells #[.int .i64 0, .bool true, .bool false, .int .i64 0, .bool true, .bool false, .int .i64 20, .bool false, .bool false] 119 (0, 0))] :: [(b2, .cells #[.bool false] 4 (0, 0))] :: [(b1, .cells #[.slice A27 (([] ++ [(subl s 0 l5.length, true)]) ++ [(subl (subl s l5.length s.length) 0 l22.length, true)]).length C28] 103 (0, 0))] :: H) 0 0 tf_sz119 (.inl rfl) rfl rfl rfl rfl rfl rfl rfl rfl rfl ?_
  refine AtL.done ?_
  refine At.seq ?_
  refine At.region ?_
  refine AtL.fieldAddrB tf_fo119_0 (.inl rfl) rfl rfl rfl ?_
  refine AtL.load tf_flat3 (.inl rfl) rfl rfl (Cell.own 0 0 rfl rfl rfl) ?_
  refine AtL.assign (.inl rfl) rfl rfl ?_
  refine AtL.done ?_
  refine At.seq ?_
  refine At.block ?_
  refine At.seq ?_
  refine At.region ?_
  refine AtL.fieldAddrB tf_fo119_2 (.inl rfl) rfl rfl rfl ?_
  refine AtL.load tf_flat4 (.inl rfl) rfl rfl (Cell.own 0 0 rfl rfl rfl) ?_
  refine AtL.move (.inl rfl) rfl rfl ?_
  refine AtL.skipped rfl rfl rfl rfl rfl rfl ?_
  refine AtL.skipped rfl rfl rfl rfl rfl rfl ?_
  refine AtL.pickF (.inl rfl) rfl rfl rfl ?_
  refine AtL.assign (.inl rfl) rfl rfl ?_
  refine AtL.done ?_
  refine At.condF rfl ?_
  refine At.seq ?_
  refine At.region ?_
  refine AtL.fieldAddrB tf_fo119_1 (.inl rfl) rfl rfl rfl ?_
  refine AtL.load tf_flat4 (.inl rfl) rfl rfl (Cell.own 0 0 rfl rfl rfl) ?_
  refine AtL.assign (.inl rfl) rfl rfl ?_
  refine AtL.done ?_
  refine At.condF rfl ?_
  refine At.seq ?_
  refine At.region ?_
  refine AtL.fieldAddrB tf_fo119_2 (.inl rfl) rfl rfl rfl ?_
  refine AtL.load tf_flat4 (.inl rfl) rfl rfl (Cell.own 0 0 rfl rfl rfl) ?_
  refine AtL.move (.inl rfl) rfl rfl ?_
  refine AtL.move (.inr ⟨_, _, _, rfl, rfl, rfl, rfl⟩) rfl rfl ?_
  refine AtL.move (.inr ⟨_, _, _, rfl, rfl, rfl, rfl⟩) rfl rfl ?_
  refine AtL.lenS (l := subl (subl s l5.length s.length) l22.length (subl s l5.length s.length).length) Tryd.underlying9 (.inr ⟨_, _, _, rfl, rfl, rfl, rfl⟩) rfl rfl ?_
  refine AtL.gtr (.inr ⟨_, _, _, rfl, rfl, rfl, rfl⟩) rfl rfl rfl ?_
  refine AtL.pickF (.inl rfl) rfl rfl rfl ?_
  refine AtL.assign (.inl rfl) rfl rfl ?_
  refine AtL.done ?_
  refine At.cond rfl ?_ ?_
  · intro hc5
    have hc5 : ((subl (subl s l5.length s.length) l22.length (subl s l5.length s.length).length).length : Int) < 20 := of_decide_eq_true hc5
    refine At.region ?_
    refine AtL.build (cs := []) tf_lay116 (.inl rfl) rfl rfl rfl ?_
    refine AtL.makeIface Tryd.underlying116 rfl (.inl rfl) rfl rfl ?_
    refine AtL.panicV (.inl rfl) rfl ?_
    refine Un.pick (H' := [(b1, .cells #[.slice A27 (([] ++ [(subl s 0 l5.length, true)]) ++ [(subl (subl s l5.length s.length) 0 l22.length, true)]).length C28] 103 (0, 0))] :: [(b2, .cells #[.bool false] 4 (0, 0))] :: [(b38, .cells #[.int .i64 20, .bool false, .bool false] 119 (0, 0))] :: s25 :: [(b21, .cells #[.int .i64 0, .bool true, .bool false] 119 (0, 0))] :: s8 :: s29 :: [(b4, .cells #[.int .i64 0, .bool true, .bool false] 119 (0, 0))] :: [(b3, .cells #[.int .i64 0, .bool true, .bool false, .int .i64 0, .bool true, .bool false, .int .i64 20, .bool false, .bool false] 119 (0, 0))] :: H) [8, 7, 0, 1, 2, 3, 4, 5, 6] 9 rfl rfl ?_
    refine Un.defer tf_body60 rfl rfl split1_bad ?_
    rintro _ _ ⟨rfl, rfl⟩
    exact Un.leftP (vs := [.slice none 0 0, .bool false]) (H2 := H) [] 9 rfl rfl Tryd.func50 rfl ⟨⟨_, rfl, LoadsTo.flat tf_flat103 (Cell.own 0 0 rfl rfl rfl)⟩, ⟨_, rfl, LoadsTo.flat tf_flat4 (Cell.own 1 0 rfl rfl rfl)⟩, trivial⟩ (⟨_, _, rfl, rfl⟩)
  · intro hc5
    have hc5 : ¬ (((subl (subl s l5.length s.length) l22.length (subl s l5.length s.length).length).length : Int) < 20) := of_decide_eq_false hc5
    refine At.skip ?_
    refine At.inBlock ?_
    refine At.seq ?_
    refine At.draw (es := [7, 8, 9]) (pv := [(0, .slice A27 (([] ++ [(subl s 0 l5.length, true)]) ++ [(subl (subl s l5.length s.length) 0 l22.length, true)]).length C28), (1, str (subl (subl s l5.length s.length) l22.length (subl s l5.length s.length).length)), (2, .int .i64 20), (3, str (subl (subl (subl s l5.length s.length) l22.length (subl s l5.length s.length).length) 0 20)), (4, .pointer (some ⟨b38, 1, none⟩)), (5, .bool false), (6, .agg #[str (subl (subl (subl s l5.length s.length) l22.length (subl s l5.length s.length).length) 0 20), .bool false])]) tf_mixed (by kernel_rfl) (by kernel_rfl) (by kernel_rfl) ?_
    refine ⟨⟨.inr ⟨_, rfl, rfl, .inl ⟨rfl, Do.load tf_flat103 rfl (Cell.own 8 0 rfl rfl rfl)⟩⟩, .inr ⟨_, rfl, rfl, .inl ⟨rfl, Do.move rfl⟩⟩, .inr ⟨_, rfl, rfl, .inl ⟨rfl, Do.move rfl⟩⟩, .inr ⟨_, rfl, rfl, .inl ⟨rfl, Do.sliceS (l := subl (subl s l5.length s.length) l22.length (subl s l5.length s.length).length) 0 20 rfl (evBound_some rfl rfl) (by omega) (by omega) Tryd.underlying9 rfl⟩⟩, .inr ⟨_, rfl, rfl, .inl ⟨rfl, Do.fieldAddrB tf_fo119_1 rfl rfl⟩⟩, .inr ⟨_, rfl, rfl, .inl ⟨rfl, Do.load tf_flat4 rfl (Cell.own 0 0 rfl rfl rfl)⟩⟩, .inr ⟨_, rfl, rfl, .inl ⟨rfl, Do.build (cs := [str (subl (subl (subl s l5.length s.length) l22.length (subl s l5.length s.length).length) 0 20), .bool false]) tf_lay114 rfl rfl⟩⟩, trivial⟩, rfl, rfl, by kernel_rfl, _, rfl, rfl, rfl, _, Do.own1 tyPiece (l := ([(subl (subl (subl s l5.length s.length) l22.length (subl s l5.length s.length).length) 0 20, false)] : List (List UInt8 × Bool))) (Do.buildSlice (cs := [str (subl (subl (subl s l5.length s.length) l22.length (subl s l5.length s.length).length) 0 20), .bool false]) Tryd.underlying103 tf_zero114 tf_sz114 rfl rfl rfl rfl) rfl rfl (by first | decide | simp), ?_⟩
    rintro _ _ ⟨b39, s40, o41, rfl, rfl⟩
    refine ⟨[], rfl, ?_⟩
    refine ⟨⟨.inr ⟨_, rfl, rfl, .inl ⟨rfl, Do.load tf_flat103 rfl (Cell.own 9 0 rfl rfl rfl)⟩⟩, .inl (by kernel_rfl), .inl (by kernel_rfl), .inl (by kernel_rfl), .inl (by kernel_rfl), .inl (by kernel_rfl), .inl (by kernel_rfl), trivial⟩, rfl, rfl, by kernel_rfl, _, rfl, rfl, rfl, _, Do.append (l := ([] ++ [(subl s 0 l5.length, true)]) ++ [(subl (subl s l5.length s.length) 0 l22.length, true)]) (news := [(subl (subl (subl s l5.length s.length) l22.length (subl s l5.length s.length).length) 0 20, false)]) 5 tf_el103 rfl o30 (o41.rd (i := 0) rfl) (by first | omega | (simp only [List.length_append, List.length_cons, List.length_nil]; omega) | (simp; done) | (simp; omega)) rfl rfl, ?_⟩
    rintro _ _ ⟨A42, C43, s44, o45, rfl, rfl⟩
    refine ⟨[], rfl, ?_⟩
    refine ⟨⟨.inl (by kernel_rfl), .inl (by kernel_rfl), .inl (by kernel_rfl), .inl (by kernel_rfl), .inl (by kernel_rfl), .inl (by kernel_rfl), .inl (by kernel_rfl), trivial⟩, rfl, rfl, by kernel_rfl, _, rfl, rfl, rfl, _, Do.store (H' := s40 :: [(b38, .cells #[.int .i64 20, .bool false, .bool false] 119 (0, 0))] :: s25 :: [(b21, .cells #[.int .i64 0, .bool true, .bool false] 119 (0, 0))] :: s8 :: s44 :: [(b4, .cells #[.int .i64 0, .bool true, .bool false] 119 (0, 0))] :: [(b3, .cells #[.int .i64 0, .bool true, .bool false, .int .i64 0, .bool true, .bool false, .int .i64 20, .bool false, .bool false] 119 (0, 0))] :: [(b2, .cells #[.bool false] 4 (0, 0))] :: [(b1, .cells #[.slice A42 ((([] ++ [(subl s 0 l5.length, true)]) ++ [(subl (subl s l5.length s.length) 0 l22.length, true)]) ++ [(subl (subl (subl s l5.length s.length) l22.length (subl s l5.length s.length).length) 0 20, false)]).length C43] 103 (0, 0))] :: H) 9 0 tf_sz103 rfl rfl rfl rfl rfl rfl rfl rfl rfl, ?_⟩
    rintro _ _ ⟨rfl, rfl⟩
    refine ⟨[], rfl, ?_⟩
    refine ⟨⟨.inl (by kernel_rfl), .inl (by kernel_rfl), .inl (by kernel_rfl), .inl (by kernel_rfl), .inl (by kernel_rfl), .inl (by kernel_rfl), .inl (by kernel_rfl), trivial⟩, by kernel_rfl, ?_⟩
    refine At.mono (E' := [(1, str (subl (subl s l5.length s.length) l22.length (subl s l5.length s.length).length)), (4, .pointer (some ⟨b1, 0, none⟩)), (5, .pointer (some ⟨b2, 0, none⟩)), (10, .int .i64 20), (22, .slice (some ⟨b3, 0, none⟩) 3 3), (23, .int .i64 3), (24, .int .i64 2)]) ⟨rfl, rfl, rfl, rfl, rfl, rfl, rfl, trivial⟩ ?_
    refine At.region ?_
    refine AtL.move (.inl rfl) rfl rfl ?_
    refine AtL.move (.inl rfl) rfl rfl ?_
    refine AtL.sliceS (l := subl (subl s l5.length s.length) l22.length (subl s l5.length s.length).length) 20 (subl (subl s l5.length s.length) l22.length (subl s l5.length s.length).length).length (evBound_some rfl rfl) rfl (by omega) (by omega) Tryd.underlying9 (.inl rfl) rfl rfl ?_
    refine AtL.assign (.inl rfl) rfl rfl ?_
    refine AtL.done ?_
    refine At.inBlock ?_
    refine At.region ?_
    refine AtL.add (z := 3) (.inl rfl) rfl rfl rfl (by decide) ?_
    refine AtL.move (.inl rfl) rfl rfl ?_
    refine AtL.done ?_
    refine At.again ?_
    refine At.seq ?_
    refine At.region ?_
    refine AtL.lss (.inl rfl) rfl rfl rfl ?_
    refine AtL.done ?_
    refine At.seq ?_
    refine At.condF rfl ?_
    refine At.exit rfl ?_
    refine At.seq ?_
    refine At.region ?_
    refine AtL.load tf_flat103 (.inl rfl) rfl rfl (Cell.own 9 0 rfl rfl rfl) ?_
    refine AtL.move (.inl rfl) rfl rfl ?_
    refine AtL.eqs (a := subl (subl (subl s l5.length s.length) l22.length (subl s l5.length s.length).length) 20 (subl (subl s l5.length s.length) l22.length (subl s l5.length s.length).length).length) (b := []) (.inl rfl) rfl rfl rfl ?_
    refine AtL.store (H' := s40 :: [(b38, .cells #[.int .i64 20, .bool false, .bool false] 119 (0, 0))] :: s25 :: [(b21, .cells #[.int .i64 0, .bool true, .bool false] 119 (0, 0))] :: s8 :: s44 :: [(b4, .cells #[.int .i64 0, .bool true, .bool false] 119 (0, 0))] :: [(b3, .cells #[.int .i64 0, .bool true, .bool false, .int .i64 0, .bool true, .bool false, .int .i64 20, .bool false, .bool false] 119 (0, 0))] :: [(b2, .cells #[.bool false] 4 (0, 0))] :: [(b1, .cells #[.slice A42 ((([] ++ [(subl s 0 l5.length, true)]) ++ [(subl (subl s l5.length s.length) 0 l22.length, true)]) ++ [(subl (subl (subl s l5.length s.length) l22.length (subl s l5.length s.length).length) 0 20, false)]).length C43] 103 (0, 0))] :: H) 9 0 tf_sz103 (.inl rfl) rfl rfl rfl rfl rfl rfl rfl rfl rfl ?_
    refine AtL.store (H' := s40 :: [(b38, .cells #[.int .i64 20, .bool false, .bool false] 119 (0, 0))] :: s25 :: [(b21, .cells #[.int .i64 0, .bool true, .bool false] 119 (0, 0))] :: s8 :: s44 :: [(b4, .cells #[.int .i64 0, .bool true, .bool false] 119 (0, 0))] :: [(b3, .cells #[.int .i64 0, .bool true, .bool false, .int .i64 0, .bool true, .bool false, .int .i64 20, .bool false, .bool false] 119 (0, 0))] :: [(b2, .cells #[.bool (decide (subl (subl (subl s l5.length s.length) l22.length (subl s l5.length s.length).length) 20 (subl (subl s l5.length s.length) l22.length (subl s l5.length s.length).length).length = []))] 4 (0, 0))] :: [(b1, .cells #[.slice A42 ((([] ++ [(subl s 0 l5.length, true)]) ++ [(subl (subl s l5.length s.length) 0 l22.length, true)]) ++ [(subl (subl (subl s l5.length s.length) l22.length (subl s l5.length s.length).length) 0 20, false)]).length C43] 103 (0, 0))] :: H) 8 0 tf_sz4 (.inl rfl) rfl rfl rfl rfl rfl rfl rfl rfl rfl ?_
    refine AtL.done ?_
    refine At.retU rfl ?_
    refine Un.pick (H' := [(b1, .cells #[.slice A42 ((([] ++ [(subl s 0 l5.length, true)]) ++ [(subl (subl s l5.length s.length) 0 l22.length, true)]) ++ [(subl (subl (subl s l5.length s.length) l22.length (subl s l5.length s.length).length) 0 20, false)]).length C43] 103 (0, 0))] :: [(b2, .cells #[.bool (decide (subl (subl (subl s l5.length s.length) l22.length (subl s l5.length s.length).length) 20 (subl (subl s l5.length s.length) l22.length (subl s l5.length s.length).length).length = []))] 4 (0, 0))] :: s40 :: [(b38, .cells #[.int .i64 20, .bool false, .bool false] 119 (0, 0))] :: s25 :: [(b21, .cells #[.int .i64 0, .bool true, .bool false] 119 (0, 0))] :: s8 :: s44 :: [(b4, .cells #[.int .i64 0, .bool true, .bool false] 119 (0, 0))] :: [(b3, .cells #[.int .i64 0, .bool true, .bool false, .int .i64 0, .bool true, .bool false, .int .i64 20, .bool false, .bool false] 119 (0, 0))] :: H) [9, 8, 0, 1, 2, 3, 4, 5, 6, 7] 10 rfl rfl ?_
    refine Un.defer tf_body60 rfl rfl split1_ret ?_
    rintro _ _ ⟨rfl, rfl⟩
    exact Un.leftP (vs := [.slice A42 ((([] ++ [(subl s 0 l5.length, true)]) ++ [(subl (subl s l5.length s.length) 0 l22.length, true)]) ++ [(subl (subl (subl s l5.length s.length) l22.length (subl s l5.length s.length).length) 0 20, false)]).length C43, .bool (decide (subl (subl (subl s l5.length s.length) l22.length (subl s l5.length s.length).length) 20 (subl (subl s l5.length s.length) l22.length (subl s l5.length s.length).length).length = []))]) (H2 := H) [] 10 rfl rfl Tryd.func50 rfl ⟨⟨_, rfl, LoadsTo.flat tf_flat103 (Cell.own 0 0 rfl rfl rfl)⟩, ⟨_, rfl, LoadsTo.flat tf_flat4 (Cell.own 1 0 rfl rfl rfl)⟩, trivial⟩ (⟨_, _, rfl, rfl⟩)

set_option maxHeartbeats 400000 in
theorem rcheck_ok {w0 : World} {base : Nat} {H : List Seg} (s : List UInt8) :
    SCalls Tryd.prog 38 [.int .i64 6, str s] w0 base (H) (fun v H' => ∃ e : Int, v = int e ∧ H' = H) := by
  refine SCalls.of_walk (n := 26) Tryd.func38 rfl rfl rfl fun cs => ?_
  refine At.seq ?_
  refine At.region ?_
  refine AtL.assign (.inl rfl) rfl rfl ?_
  refine AtL.done ?_
  refine At.seq ?_
  refine At.block ?_
  refine At.seq ?_
  refine At.region ?_
  refine AtL.move (.inl rfl) rfl rfl ?_
  refine AtL.lss (.inl rfl) rfl rfl rfl ?_
  refine AtL.move (.inl rfl) rfl rfl ?_
  refine AtL.move (.inr ⟨_, _, _, rfl, rfl, rfl, rfl⟩) rfl rfl ?_
  refine AtL.gtr (.inr ⟨_, _, _, rfl, rfl, rfl, rfl⟩) rfl rfl rfl ?_
  refine AtL.pickF (.inl rfl) rfl rfl rfl ?_
  refine AtL.assign (.inl rfl) rfl rfl ?_
  refine AtL.done ?_
  refine At.condF rfl ?_
  refine At.seq ?_
  refine At.region ?_
  refine AtL.move (.inl rfl) rfl rfl ?_
  refine AtL.lenS (l := s) Tryd.underlying9 (.inl rfl) rfl rfl ?_
  refine AtL.gtr (.inl rfl) rfl rfl rfl ?_
  refine AtL.assign (.inl rfl) rfl rfl ?_
  refine AtL.done ?_
  refine At.cond rfl ?_ ?_
  · intro hc2
    have hc2 : 65535 < (s.length : Int) := of_decide_eq_true hc2
    refine At.seq ?_
    refine At.region ?_
    refine AtL.assign (.inl rfl) rfl rfl ?_
    refine AtL.done ?_
    exact At.ret Tryd.func38 rfl rfl (⟨_, rfl, rfl⟩)
  · intro hc2
    have hc2 : ¬ (65535 < (s.length : Int)) := of_decide_eq_false hc2
    refine At.skip ?_
    refine At.inBlock ?_
    refine At.seq ?_
    refine At.seq ?_
    refine At.region ?_
    refine AtL.move (.inl rfl) rfl rfl ?_
    refine AtL.move (.inl rfl) rfl rfl ?_
    refine AtL.call tf_body50 (.inl rfl) rfl rfl (split_ok6 s (by omega)) ?_
    rintro _ _ ⟨v1, b2, rfl, hHq⟩
    obtain rfl := hHq.symm
    refine AtL.move (.inl rfl) rfl rfl ?_
    refine AtL.extract (.inl rfl) rfl rfl rfl ?_
    refine AtL.extract (.inl rfl) rfl rfl rfl ?_
    refine AtL.assign (.inl rfl) rfl rfl ?_
    refine AtL.assign (.inl rfl) rfl rfl ?_
    refine AtL.done ?_
    refine At.seq ?_
    refine At.region ?_
    refine AtL.move (.inl rfl) rfl rfl ?_
    refine AtL.not (.inl rfl) rfl rfl ?_
    refine AtL.done ?_
    refine At.cond rfl ?_ ?_
    · intro hc3
      have hc3 : b2 = false := bnot_true hc3
      refine At.seq ?_
      refine At.region ?_
      refine AtL.assign (.inl rfl) rfl rfl ?_
      refine AtL.done ?_
      exact At.ret Tryd.func38 rfl rfl (⟨_, rfl, rfl⟩)
    · intro hc3
      have hc3 : b2 = true := bnot_false hc3
      refine At.skip ?_
      refine At.seq ?_
      refine At.region ?_
      refine AtL.assign (.inl rfl) rfl rfl ?_
      refine AtL.done ?_
      exact At.ret Tryd.func38 rfl rfl (⟨_, rfl, rfl⟩)

set_option maxHeartbeats 400000 in
theorem least_ok {w0 : World} {base : Nat} {H : List Seg} (s : List UInt8) (hs : s.length ≤ 140737488355328) :
    SCalls Tryd.prog 29 [.int .i64 6, str s] w0 base (H) (fun v H' => ∃ (e : Int) (b : Bool), v = .tuple #[int e, .bool b] ∧ H' = H) := by
  refine SCalls.of_walk (n := 30) Tryd.func29 rfl rfl rfl fun cs => ?_
  refine At.seq ?_
  refine At.region ?_
  refine AtL.assign (.inl rfl) rfl rfl ?_
  refine AtL.assign (.inl rfl) rfl rfl ?_
  refine AtL.done ?_
  refine At.seq ?_
  refine At.seq ?_
  refine At.region ?_
  refine AtL.move (.inl rfl) rfl rfl ?_
  refine AtL.nei (.inl rfl) rfl rfl rfl ?_
  refine AtL.move (.inl rfl) rfl rfl ?_
  refine AtL.move (.inr ⟨_, _, _, rfl, rfl, rfl, rfl⟩) rfl rfl ?_
  refine AtL.move (.inr ⟨_, _, _, rfl, rfl, rfl, rfl⟩) rfl rfl ?_
  refine AtL.call tf_body38 (.inr ⟨_, _, _, rfl, rfl, rfl, rfl⟩) rfl rfl (rcheck_ok s) ?_
  rintro _ _ ⟨e1, rfl, hHq⟩
  obtain rfl := hHq.symm
  refine AtL.nei (.inr ⟨_, _, _, rfl, rfl, rfl, rfl⟩) rfl rfl rfl ?_
  refine AtL.pickF (.inl rfl) rfl rfl rfl ?_
  refine AtL.done ?_
  refine At.cond rfl ?_ ?_
  · intro hc1
    have hc1 : ¬ ((e1 : Int) = 0) := of_decide_eq_false (bnot_true hc1)
    refine At.seq ?_
    refine At.region ?_
    refine AtL.assign (.inl rfl) rfl rfl ?_
    refine AtL.assign (.inl rfl) rfl rfl ?_
    refine AtL.done ?_
    exact At.ret Tryd.func29 rfl rfl (⟨_, _, rfl, rfl⟩)
  · intro hc1
    have hc1 : (e1 : Int) = 0 := of_decide_eq_true (bnot_false hc1)
    refine At.skip ?_
    refine At.seq ?_
    refine At.region ?_
    refine AtL.move (.inl rfl) rfl rfl ?_
    refine AtL.bytesOf (l := s) Tryd.underlying9 Tryd.underlying22 Tryd.underlying5 (by first | omega | (simp only [List.length_append, List.length_cons, List.length_nil]; omega) | (simp; done) | (simp; omega)) (.inl rfl) rfl rfl ?_
    intro A2 C3 s4 n6 o5
    refine AtL.move (.inl rfl) rfl rfl ?_
    refine AtL.lenS (l := s) Tryd.underlying9 (.inl rfl) rfl rfl ?_
    refine AtL.sub (z := (s.length : Int) - 4) (.inl rfl) rfl rfl rfl (w64 (by omega) (by omega)) ?_
    refine AtL.call tf_body39 (.inl rfl) rfl rfl (get32_any (l := s) (o5.rd (i := 0) rfl) ((s.length : Int) - 4) (by omega) (by omega) (by omega)) ?_
    rintro _ _ ⟨n7, k8, e9, f10, rfl, rfl⟩
    refine AtL.move (.inl rfl) rfl rfl ?_
    refine AtL.extract (.inl rfl) rfl rfl rfl ?_
    refine AtL.extract (.inl rfl) rfl rfl rfl ?_
    refine AtL.extract (.inl rfl) rfl rfl rfl ?_
    refine AtL.alloc tf_zero72 (cs := #[.int .i64 0, .int .i64 0]) rfl (.inl rfl) rfl ?_
    intro b11
    refine AtL.assign (.inl rfl) rfl rfl ?_
    refine AtL.assign (.inl rfl) rfl rfl ?_
    refine AtL.store (H' := [(b11, .cells #[.int .i64 e9, .int .i64 f10] 72 (0, 0))] :: s4 :: H) 0 0 tf_sz72 (.inl rfl) rfl rfl rfl rfl rfl rfl rfl rfl rfl ?_
    refine AtL.done ?_
    refine At.seq ?_
    refine At.seq ?_
    refine At.region ?_
    refine AtL.move (.inl rfl) rfl rfl ?_
    refine AtL.geq (.inl rfl) rfl rfl rfl ?_
    refine AtL.done ?_
    refine At.cond rfl ?_ ?_
    · intro hc2
      have hc2 : 2147483648 ≤ (n7 : Int) := of_decide_eq_true hc2
      refine At.region ?_
      refine AtL.assign (.inl rfl) rfl rfl ?_
      refine AtL.done ?_
      refine At.seq ?_
      refine At.region ?_
      refine AtL.move (.inl rfl) rfl rfl ?_
      refine AtL.assign (.inl rfl) rfl rfl ?_
      refine AtL.assign (.inl rfl) rfl rfl ?_
      refine AtL.done ?_
      refine At.pick (H' := H) [] 2 rfl rfl ?_
      exact At.ret Tryd.func29 rfl rfl (⟨_, _, rfl, rfl⟩)
    · intro hc2
      have hc2 : ¬ (2147483648 ≤ (n7 : Int)) := of_decide_eq_false hc2
      refine At.skip ?_
      refine At.seq ?_
      refine At.region ?_
      refine AtL.move (.inl rfl) rfl rfl ?_
      refine AtL.assign (.inl rfl) rfl rfl ?_
      refine AtL.assign (.inl rfl) rfl rfl ?_
      refine AtL.done ?_
      refine At.pick (H' := H) [] 2 rfl rfl ?_
      exact At.ret Tryd.func29 rfl rfl (⟨_, _, rfl, rfl⟩)

theorem least_t {w0 : World} {base : Nat} {H : List Seg} {t : Int} (s : List UInt8) (hs : s.length ≤ 140737488355328) (ht : t = 6) : SCalls Tryd.prog 29 [int t, str s] w0 base H (fun v H' => ∃ (e : Int) (b : Bool), v = .tuple #[int e, .bool b] ∧ H' = H) := by
  subst ht; exact least_ok s hs

end Go.Proofs.YtlkdmbpbjhjkfaaDoor
