/- RespWrites, RespPlain: the walks. -/
import Derived.Test.YtlfkoimkojbghaaDoorB4
namespace Go.Proofs.YtlfkoimkojbghaaDoor
set_option linter.unusedVariables false
set_option linter.unusedSimpArgs false
set_option maxRecDepth 100000

set_option maxHeartbeats 1000000 in
theorem respwrites_ok {w0 : World} {base : Nat} {H : List Seg} {st : Int} {A A2 : Option Addr} {C C2 : Nat} {fs : List (List UInt8 × List UInt8)} {b : List UInt8} {kp : Bool} (h : Rd tyField w0 base H A C fs) (h2 : Rd tyB w0 base H A2 C2 b) (hb : ∀ f ∈ fs, f.1.length ≤ 140737488355000 ∧ f.2.length ≤ 140737488355000) (T10 : Tab10 w0 base) :
    SCalls Tryd.prog 6 [.agg #[.int .i64 st, .slice A fs.length C, .slice A2 b.length C2, .bool kp]] w0 base (H) (fun v H' => v = .bool true ∧ H' = H) := by
  have hle0 := h.le
  have hcap0 := h.cap
  have hle2 := h2.le
  have hcap2 := h2.cap
  refine SCalls.of_walk (n := 57) Tryd.func6 rfl rfl rfl fun cs => ?_
  refine At.seq ?_
  refine At.region ?_
  refine AtL.box (cs := #[.int .i64 st, .slice A fs.length C, .slice A2 b.length C2, .bool kp]) rfl (.inl rfl) rfl rfl ?_
  intro b1
  refine AtL.assign (.inl rfl) rfl rfl ?_
  refine AtL.done ?_
  refine At.seq ?_
  refine At.seq ?_
  refine At.region ?_
  refine AtL.loadN (cs := [.int .i64 st, .slice A fs.length C, .slice A2 b.length C2, .bool kp]) tf_agg54 (.inl rfl) rfl rfl rfl (cellsOwn 0 0 0 rfl rfl rfl) ?_
  refine AtL.call tf_body28 (.inl rfl) rfl rfl (long15_ok (st := st) (fs := fs) (b := b) (kp := kp) (Rd.skip 1 h) (Rd.skip 1 h2) hb) ?_
  rintro _ _ ⟨bl2, rfl, hx3, rfl⟩
  have hlong := hx3
  refine AtL.done ?_
  refine At.cond rfl ?_ ?_
  · intro hc1
    have hc1 : bl2 = true := hc1
    refine At.seq ?_
    refine At.region ?_
    refine AtL.call tf_body29 (.inl rfl) rfl rfl (awake15_ok T10) ?_
    rintro _ _ ⟨rfl, rfl⟩
    refine AtL.assign (.inl rfl) rfl rfl ?_
    refine AtL.done ?_
    refine At.pick (H' := H) [] 1 rfl rfl ?_
    exact At.ret Tryd.func6 rfl rfl (⟨rfl, rfl⟩)
  · intro hc1
    have hc1 : bl2 = false := hc1
    obtain ⟨hf40, hb6, hbl⟩ := hlong (by simpa using hc1)
    have hfl : fs.length ≤ 1000 := by omega
    refine At.skip ?_
    refine At.seq ?_
    refine At.joinQ (fun E2 H2 => ∃ (b15 : Nat), ∃ (xs13 : Sl tyB 5), ∃ (xs9 : Sl tyField 67), xs13.l = b ∧ xs9.l = fs ∧ Sub [(1, .pointer (some ⟨b1, 0, none⟩)), (3, .pointer (some ⟨b15, 0, none⟩))] E2 ∧ H2 = [(b15, .cells #[.int .i64 st, .slice xs9.A xs9.l.length xs9.C, .slice xs13.A xs13.l.length xs13.C, .bool kp] 54 (0, 0))] :: xs13.s :: xs9.s :: [(b1, .cells #[.int .i64 st, .slice A fs.length C, .slice A2 b.length C2, .bool kp] 54 (0, 0))] :: H) (fun J => ?_) ?_
    · skip
      refine At.drawM (n := 5) (fs := [2, 12]) (pv := [(0, .pointer (some ⟨b1, 0, none⟩)), (1, .int .i64 st), (3, .pointer (some ⟨b1, 1, none⟩)), (4, .slice A fs.length C), (6, .pointer (some ⟨b1, 2, none⟩)), (7, .slice A2 b.length C2), (9, .pointer (some ⟨b1, 3, none⟩)), (10, .bool kp)]) tf_mixed (by kernel_rfl) (by kernel_rfl) (by kernel_rfl) ?_
      refine ⟨⟨.inr ⟨_, rfl, rfl, .inl ⟨rfl, Do.fieldAddrB tf_fo54_0 rfl rfl⟩⟩, .inr ⟨_, rfl, rfl, .inl ⟨rfl, Do.load tf_flat3 rfl (Cell.own 0 0 rfl rfl rfl)⟩⟩, .inr ⟨_, rfl, rfl, .inl ⟨rfl, Do.fieldAddrB tf_fo54_1 rfl rfl⟩⟩, .inr ⟨_, rfl, rfl, .inl ⟨rfl, Do.load tf_flat22 rfl (Cell.own 0 0 rfl rfl rfl)⟩⟩, .inr ⟨_, rfl, rfl, .inl ⟨rfl, Do.fieldAddrB tf_fo54_2 rfl rfl⟩⟩, .inr ⟨_, rfl, rfl, .inl ⟨rfl, Do.load tf_flat25 rfl (Cell.own 0 0 rfl rfl rfl)⟩⟩, .inr ⟨_, rfl, rfl, .inl ⟨rfl, Do.fieldAddrB tf_fo54_3 rfl rfl⟩⟩, .inr ⟨_, rfl, rfl, .inl ⟨rfl, Do.load tf_flat4 rfl (Cell.own 0 0 rfl rfl rfl)⟩⟩, trivial⟩, List.cons_ne_nil _ _, by kernel_rfl, by kernel_rfl, ⟨_, rfl, rfl, rfl, _, Do.own1 tyField (l := ([] : List (List UInt8 × List UInt8))) (Do.buildSlice (cs := []) Tryd.underlying22 tf_zero67 tf_sz67 rfl rfl rfl rfl) rfl rfl (by first | decide | simp), ?_⟩, ⟨_, rfl, rfl, rfl, _, Do.alloc tf_zero54 (cs := #[.int .i64 0, .slice none 0 0, .slice none 0 0, .bool false]) rfl, ?_⟩, trivial⟩
      · skip
        rintro _ _ ⟨b16, s17, o18, rfl, rfl⟩
        refine ⟨[], [5, 12], rfl, ?_⟩
        refine ⟨⟨.inr ⟨_, rfl, rfl, .inl ⟨rfl, Do.fieldAddrB tf_fo54_0 rfl rfl⟩⟩, .inr ⟨_, rfl, rfl, .inl ⟨rfl, Do.load tf_flat3 rfl (Cell.own 1 0 rfl rfl rfl)⟩⟩, .inr ⟨_, rfl, rfl, .inl ⟨rfl, Do.fieldAddrB tf_fo54_1 rfl rfl⟩⟩, .inr ⟨_, rfl, rfl, .inl ⟨rfl, Do.load tf_flat22 rfl (Cell.own 1 0 rfl rfl rfl)⟩⟩, .inr ⟨_, rfl, rfl, .inl ⟨rfl, Do.fieldAddrB tf_fo54_2 rfl rfl⟩⟩, .inr ⟨_, rfl, rfl, .inl ⟨rfl, Do.load tf_flat25 rfl (Cell.own 1 0 rfl rfl rfl)⟩⟩, .inr ⟨_, rfl, rfl, .inl ⟨rfl, Do.fieldAddrB tf_fo54_3 rfl rfl⟩⟩, .inr ⟨_, rfl, rfl, .inl ⟨rfl, Do.load tf_flat4 rfl (Cell.own 1 0 rfl rfl rfl)⟩⟩, trivial⟩, List.cons_ne_nil _ _, by kernel_rfl, by kernel_rfl, ⟨_, rfl, rfl, rfl, _, Do.append (l := []) (news := fs) 0 tf_el22 rfl o18 (Rd.skip 2 h) (by simp; omega) rfl rfl, ?_⟩, ⟨_, rfl, rfl, rfl, _, Do.alloc tf_zero54 (cs := #[.int .i64 0, .slice none 0 0, .slice none 0 0, .bool false]) rfl, ?_⟩, trivial⟩
        · skip
          rintro _ _ ⟨A20, C21, s22, o23, rfl, rfl⟩
          refine ⟨[], [8, 12], rfl, ?_⟩
          refine ⟨⟨.inr ⟨_, rfl, rfl, .inl ⟨rfl, Do.fieldAddrB tf_fo54_0 rfl rfl⟩⟩, .inr ⟨_, rfl, rfl, .inl ⟨rfl, Do.load tf_flat3 rfl (Cell.own 1 0 rfl rfl rfl)⟩⟩, .inl (by kernel_rfl), .inl (by kernel_rfl), .inr ⟨_, rfl, rfl, .inl ⟨rfl, Do.fieldAddrB tf_fo54_2 rfl rfl⟩⟩, .inr ⟨_, rfl, rfl, .inl ⟨rfl, Do.load tf_flat25 rfl (Cell.own 1 0 rfl rfl rfl)⟩⟩, .inr ⟨_, rfl, rfl, .inl ⟨rfl, Do.fieldAddrB tf_fo54_3 rfl rfl⟩⟩, .inr ⟨_, rfl, rfl, .inl ⟨rfl, Do.load tf_flat4 rfl (Cell.own 1 0 rfl rfl rfl)⟩⟩, trivial⟩, List.cons_ne_nil _ _, by kernel_rfl, by kernel_rfl, ⟨_, rfl, rfl, rfl, _, Do.call tf_body30 rfl (copy_ok (l := b) (Rd.skip 2 h2) (by omega)), ?_⟩, ⟨_, rfl, rfl, rfl, _, Do.alloc tf_zero54 (cs := #[.int .i64 0, .slice none 0 0, .slice none 0 0, .bool false]) rfl, ?_⟩, trivial⟩
          · skip
            rintro _ _ ⟨A25, C26, s27, o28, rfl, rfl⟩
            refine ⟨[(11, .agg #[.int .i64 st, .slice A20 fs.length C21, .slice A25 b.length C26, .bool kp])], [12], rfl, ?_⟩
            refine ⟨⟨.inr ⟨_, rfl, rfl, .inl ⟨rfl, Do.build (cs := [.int .i64 st, .slice A20 fs.length C21, .slice A25 b.length C26, .bool kp]) tf_lay54 rfl rfl⟩⟩, .inr ⟨_, rfl, rfl, .inl ⟨rfl, Do.fieldAddrB tf_fo54_0 rfl rfl⟩⟩, .inr ⟨_, rfl, rfl, .inl ⟨rfl, Do.load tf_flat3 rfl (Cell.own 2 0 rfl rfl rfl)⟩⟩, .inl (by kernel_rfl), .inl (by kernel_rfl), .inl (by kernel_rfl), .inl (by kernel_rfl), .inr ⟨_, rfl, rfl, .inl ⟨rfl, Do.fieldAddrB tf_fo54_3 rfl rfl⟩⟩, .inr ⟨_, rfl, rfl, .inl ⟨rfl, Do.load tf_flat4 rfl (Cell.own 2 0 rfl rfl rfl)⟩⟩, trivial⟩, List.cons_ne_nil _ _, by kernel_rfl, by kernel_rfl, ⟨_, rfl, rfl, rfl, _, Do.alloc tf_zero54 (cs := #[.int .i64 0, .slice none 0 0, .slice none 0 0, .bool false]) rfl, ?_⟩, trivial⟩
            rintro _ _ ⟨b30, rfl, rfl⟩
            refine ⟨[], [13], rfl, ?_⟩
            refine ⟨⟨.inr ⟨_, rfl, rfl, .inl ⟨rfl, Do.build (cs := [.int .i64 st, .slice A20 fs.length C21, .slice A25 b.length C26, .bool kp]) tf_lay54 rfl rfl⟩⟩, .inr ⟨_, rfl, rfl, .inl ⟨rfl, Do.fieldAddrB tf_fo54_0 rfl rfl⟩⟩, .inr ⟨_, rfl, rfl, .inl ⟨rfl, Do.load tf_flat3 rfl (Cell.own 3 0 rfl rfl rfl)⟩⟩, .inl (by kernel_rfl), .inl (by kernel_rfl), .inl (by kernel_rfl), .inl (by kernel_rfl), .inr ⟨_, rfl, rfl, .inl ⟨rfl, Do.fieldAddrB tf_fo54_3 rfl rfl⟩⟩, .inr ⟨_, rfl, rfl, .inl ⟨rfl, Do.load tf_flat4 rfl (Cell.own 3 0 rfl rfl rfl)⟩⟩, trivial⟩, List.cons_ne_nil _ _, by kernel_rfl, by kernel_rfl, ⟨_, rfl, rfl, rfl, _, Do.store (H' := [(b30, .cells #[.int .i64 st, .slice A20 fs.length C21, .slice A25 b.length C26, .bool kp] 54 (0, 0))] :: s27 :: s22 :: [(b1, .cells #[.int .i64 st, .slice A fs.length C, .slice A2 b.length C2, .bool kp] 54 (0, 0))] :: H) 0 0 tf_sz54 rfl rfl rfl rfl rfl rfl rfl rfl rfl, ?_⟩, trivial⟩
            rintro _ _ ⟨rfl, rfl⟩
            refine ⟨[], [], rfl, ?_⟩
            refine ⟨⟨.inl (by kernel_rfl), .inl (by kernel_rfl), .inl (by kernel_rfl), .inl (by kernel_rfl), .inl (by kernel_rfl), .inl (by kernel_rfl), .inl (by kernel_rfl), .inl (by kernel_rfl), .inl (by kernel_rfl), trivial⟩, by kernel_rfl, ?_⟩
            exact J _ _ ⟨b30, ⟨A25, C26, b, s27, o28⟩, ⟨A20, C21, fs, s22, o23⟩, rfl, rfl, ⟨rfl, rfl, trivial⟩, rfl⟩
          · skip
            rintro _ _ ⟨b29, rfl, rfl⟩
            refine ⟨[], [8], rfl, ?_⟩
            refine ⟨⟨.inr ⟨_, rfl, rfl, .inl ⟨rfl, Do.fieldAddrB tf_fo54_0 rfl rfl⟩⟩, .inr ⟨_, rfl, rfl, .inl ⟨rfl, Do.load tf_flat3 rfl (Cell.own 2 0 rfl rfl rfl)⟩⟩, .inl (by kernel_rfl), .inl (by kernel_rfl), .inr ⟨_, rfl, rfl, .inl ⟨rfl, Do.fieldAddrB tf_fo54_2 rfl rfl⟩⟩, .inr ⟨_, rfl, rfl, .inl ⟨rfl, Do.load tf_flat25 rfl (Cell.own 2 0 rfl rfl rfl)⟩⟩, .inr ⟨_, rfl, rfl, .inl ⟨rfl, Do.fieldAddrB tf_fo54_3 rfl rfl⟩⟩, .inr ⟨_, rfl, rfl, .inl ⟨rfl, Do.load tf_flat4 rfl (Cell.own 2 0 rfl rfl rfl)⟩⟩, trivial⟩, List.cons_ne_nil _ _, by kernel_rfl, by kernel_rfl, ⟨_, rfl, rfl, rfl, _, Do.call tf_body30 rfl (copy_ok (l := b) (Rd.skip 3 h2) (by omega)), ?_⟩, trivial⟩
            rintro _ _ ⟨A31, C32, s33, o34, rfl, rfl⟩
            refine ⟨[(11, .agg #[.int .i64 st, .slice A20 fs.length C21, .slice A31 b.length C32, .bool kp])], [13], rfl, ?_⟩
            refine ⟨⟨.inr ⟨_, rfl, rfl, .inl ⟨rfl, Do.build (cs := [.int .i64 st, .slice A20 fs.length C21, .slice A31 b.length C32, .bool kp]) tf_lay54 rfl rfl⟩⟩, .inr ⟨_, rfl, rfl, .inl ⟨rfl, Do.fieldAddrB tf_fo54_0 rfl rfl⟩⟩, .inr ⟨_, rfl, rfl, .inl ⟨rfl, Do.load tf_flat3 rfl (Cell.own 3 0 rfl rfl rfl)⟩⟩, .inl (by kernel_rfl), .inl (by kernel_rfl), .inl (by kernel_rfl), .inl (by kernel_rfl), .inr ⟨_, rfl, rfl, .inl ⟨rfl, Do.fieldAddrB tf_fo54_3 rfl rfl⟩⟩, .inr ⟨_, rfl, rfl, .inl ⟨rfl, Do.load tf_flat4 rfl (Cell.own 3 0 rfl rfl rfl)⟩⟩, trivial⟩, List.cons_ne_nil _ _, by kernel_rfl, by kernel_rfl, ⟨_, rfl, rfl, rfl, _, Do.store (H' := s33 :: [(b29, .cells #[.int .i64 st, .slice A20 fs.length C21, .slice A31 b.length C32, .bool kp] 54 (0, 0))] :: s22 :: [(b1, .cells #[.int .i64 st, .slice A fs.length C, .slice A2 b.length C2, .bool kp] 54 (0, 0))] :: H) 1 0 tf_sz54 rfl rfl rfl rfl rfl rfl rfl rfl rfl, ?_⟩, trivial⟩
            rintro _ _ ⟨rfl, rfl⟩
            refine ⟨[], [], rfl, ?_⟩
            refine ⟨⟨.inl (by kernel_rfl), .inl (by kernel_rfl), .inl (by kernel_rfl), .inl (by kernel_rfl), .inl (by kernel_rfl), .inl (by kernel_rfl), .inl (by kernel_rfl), .inl (by kernel_rfl), .inl (by kernel_rfl), trivial⟩, by kernel_rfl, ?_⟩
            refine At.pick (H' := [(b29, .cells #[.int .i64 st, .slice A20 fs.length C21, .slice A31 b.length C32, .bool kp] 54 (0, 0))] :: s33 :: s22 :: [(b1, .cells #[.int .i64 st, .slice A fs.length C, .slice A2 b.length C2, .bool kp] 54 (0, 0))] :: H) [1, 0, 2, 3] 4 rfl rfl ?_
            exact J _ _ ⟨b29, ⟨A31, C32, b, s33, o34⟩, ⟨A20, C21, fs, s22, o23⟩, rfl, rfl, ⟨rfl, rfl, trivial⟩, rfl⟩
        · skip
          rintro _ _ ⟨b24, rfl, rfl⟩
          refine ⟨[], [5], rfl, ?_⟩
          refine ⟨⟨.inr ⟨_, rfl, rfl, .inl ⟨rfl, Do.fieldAddrB tf_fo54_0 rfl rfl⟩⟩, .inr ⟨_, rfl, rfl, .inl ⟨rfl, Do.load tf_flat3 rfl (Cell.own 2 0 rfl rfl rfl)⟩⟩, .inr ⟨_, rfl, rfl, .inl ⟨rfl, Do.fieldAddrB tf_fo54_1 rfl rfl⟩⟩, .inr ⟨_, rfl, rfl, .inl ⟨rfl, Do.load tf_flat22 rfl (Cell.own 2 0 rfl rfl rfl)⟩⟩, .inr ⟨_, rfl, rfl, .inl ⟨rfl, Do.fieldAddrB tf_fo54_2 rfl rfl⟩⟩, .inr ⟨_, rfl, rfl, .inl ⟨rfl, Do.load tf_flat25 rfl (Cell.own 2 0 rfl rfl rfl)⟩⟩, .inr ⟨_, rfl, rfl, .inl ⟨rfl, Do.fieldAddrB tf_fo54_3 rfl rfl⟩⟩, .inr ⟨_, rfl, rfl, .inl ⟨rfl, Do.load tf_flat4 rfl (Cell.own 2 0 rfl rfl rfl)⟩⟩, trivial⟩, List.cons_ne_nil _ _, by kernel_rfl, by kernel_rfl, ⟨_, rfl, rfl, rfl, _, Do.append (l := []) (news := fs) 1 tf_el22 rfl o18 (Rd.skip 3 h) (by simp; omega) rfl rfl, ?_⟩, trivial⟩
          rintro _ _ ⟨A35, C36, s37, o38, rfl, rfl⟩
          refine ⟨[], [8], rfl, ?_⟩
          refine ⟨⟨.inr ⟨_, rfl, rfl, .inl ⟨rfl, Do.fieldAddrB tf_fo54_0 rfl rfl⟩⟩, .inr ⟨_, rfl, rfl, .inl ⟨rfl, Do.load tf_flat3 rfl (Cell.own 2 0 rfl rfl rfl)⟩⟩, .inl (by kernel_rfl), .inl (by kernel_rfl), .inr ⟨_, rfl, rfl, .inl ⟨rfl, Do.fieldAddrB tf_fo54_2 rfl rfl⟩⟩, .inr ⟨_, rfl, rfl, .inl ⟨rfl, Do.load tf_flat25 rfl (Cell.own 2 0 rfl rfl rfl)⟩⟩, .inr ⟨_, rfl, rfl, .inl ⟨rfl, Do.fieldAddrB tf_fo54_3 rfl rfl⟩⟩, .inr ⟨_, rfl, rfl, .inl ⟨rfl, Do.load tf_flat4 rfl (Cell.own 2 0 rfl rfl rfl)⟩⟩, trivial⟩, List.cons_ne_nil _ _, by kernel_rfl, by kernel_rfl, ⟨_, rfl, rfl, rfl, _, Do.call tf_body30 rfl (copy_ok (l := b) (Rd.skip 3 h2) (by omega)), ?_⟩, trivial⟩
          rintro _ _ ⟨A39, C40, s41, o42, rfl, rfl⟩
          refine ⟨[(11, .agg #[.int .i64 st, .slice A35 fs.length C36, .slice A39 b.length C40, .bool kp])], [13], rfl, ?_⟩
          refine ⟨⟨.inr ⟨_, rfl, rfl, .inl ⟨rfl, Do.build (cs := [.int .i64 st, .slice A35 fs.length C36, .slice A39 b.length C40, .bool kp]) tf_lay54 rfl rfl⟩⟩, .inr ⟨_, rfl, rfl, .inl ⟨rfl, Do.fieldAddrB tf_fo54_0 rfl rfl⟩⟩, .inr ⟨_, rfl, rfl, .inl ⟨rfl, Do.load tf_flat3 rfl (Cell.own 3 0 rfl rfl rfl)⟩⟩, .inl (by kernel_rfl), .inl (by kernel_rfl), .inl (by kernel_rfl), .inl (by kernel_rfl), .inr ⟨_, rfl, rfl, .inl ⟨rfl, Do.fieldAddrB tf_fo54_3 rfl rfl⟩⟩, .inr ⟨_, rfl, rfl, .inl ⟨rfl, Do.load tf_flat4 rfl (Cell.own 3 0 rfl rfl rfl)⟩⟩, trivial⟩, List.cons_ne_nil _ _, by kernel_rfl, by kernel_rfl, ⟨_, rfl, rfl, rfl, _, Do.store (H' := s41 :: [(b24, .cells #[.int .i64 st, .slice A35 fs.length C36, .slice A39 b.length C40, .bool kp] 54 (0, 0))] :: s37 :: [(b1, .cells #[.int .i64 st, .slice A fs.length C, .slice A2 b.length C2, .bool kp] 54 (0, 0))] :: H) 1 0 tf_sz54 rfl rfl rfl rfl rfl rfl rfl rfl rfl, ?_⟩, trivial⟩
          rintro _ _ ⟨rfl, rfl⟩
          refine ⟨[], [], rfl, ?_⟩
          refine ⟨⟨.inl (by kernel_rfl), .inl (by kernel_rfl), .inl (by kernel_rfl), .inl (by kernel_rfl), .inl (by kernel_rfl), .inl (by kernel_rfl), .inl (by kernel_rfl), .inl (by kernel_rfl), .inl (by kernel_rfl), trivial⟩, by kernel_rfl, ?_⟩
          refine At.pick (H' := [(b24, .cells #[.int .i64 st, .slice A35 fs.length C36, .slice A39 b.length C40, .bool kp] 54 (0, 0))] :: s41 :: s37 :: [(b1, .cells #[.int .i64 st, .slice A fs.length C, .slice A2 b.length C2, .bool kp] 54 (0, 0))] :: H) [1, 0, 2, 3] 4 rfl rfl ?_
          exact J _ _ ⟨b24, ⟨A39, C40, b, s41, o42⟩, ⟨A35, C36, fs, s37, o38⟩, rfl, rfl, ⟨rfl, rfl, trivial⟩, rfl⟩
      · skip
        rintro _ _ ⟨b19, rfl, rfl⟩
        refine ⟨[], [2], rfl, ?_⟩
        refine ⟨⟨.inr ⟨_, rfl, rfl, .inl ⟨rfl, Do.fieldAddrB tf_fo54_0 rfl rfl⟩⟩, .inr ⟨_, rfl, rfl, .inl ⟨rfl, Do.load tf_flat3 rfl (Cell.own 1 0 rfl rfl rfl)⟩⟩, .inr ⟨_, rfl, rfl, .inl ⟨rfl, Do.fieldAddrB tf_fo54_1 rfl rfl⟩⟩, .inr ⟨_, rfl, rfl, .inl ⟨rfl, Do.load tf_flat22 rfl (Cell.own 1 0 rfl rfl rfl)⟩⟩, .inr ⟨_, rfl, rfl, .inl ⟨rfl, Do.fieldAddrB tf_fo54_2 rfl rfl⟩⟩, .inr ⟨_, rfl, rfl, .inl ⟨rfl, Do.load tf_flat25 rfl (Cell.own 1 0 rfl rfl rfl)⟩⟩, .inr ⟨_, rfl, rfl, .inl ⟨rfl, Do.fieldAddrB tf_fo54_3 rfl rfl⟩⟩, .inr ⟨_, rfl, rfl, .inl ⟨rfl, Do.load tf_flat4 rfl (Cell.own 1 0 rfl rfl rfl)⟩⟩, trivial⟩, List.cons_ne_nil _ _, by kernel_rfl, by kernel_rfl, ⟨_, rfl, rfl, rfl, _, Do.own1 tyField (l := ([] : List (List UInt8 × List UInt8))) (Do.buildSlice (cs := []) Tryd.underlying22 tf_zero67 tf_sz67 rfl rfl rfl rfl) rfl rfl (by first | decide | simp), ?_⟩, trivial⟩
        rintro _ _ ⟨b43, s44, o45, rfl, rfl⟩
        refine ⟨[], [5], rfl, ?_⟩
        refine ⟨⟨.inr ⟨_, rfl, rfl, .inl ⟨rfl, Do.fieldAddrB tf_fo54_0 rfl rfl⟩⟩, .inr ⟨_, rfl, rfl, .inl ⟨rfl, Do.load tf_flat3 rfl (Cell.own 2 0 rfl rfl rfl)⟩⟩, .inr ⟨_, rfl, rfl, .inl ⟨rfl, Do.fieldAddrB tf_fo54_1 rfl rfl⟩⟩, .inr ⟨_, rfl, rfl, .inl ⟨rfl, Do.load tf_flat22 rfl (Cell.own 2 0 rfl rfl rfl)⟩⟩, .inr ⟨_, rfl, rfl, .inl ⟨rfl, Do.fieldAddrB tf_fo54_2 rfl rfl⟩⟩, .inr ⟨_, rfl, rfl, .inl ⟨rfl, Do.load tf_flat25 rfl (Cell.own 2 0 rfl rfl rfl)⟩⟩, .inr ⟨_, rfl, rfl, .inl ⟨rfl, Do.fieldAddrB tf_fo54_3 rfl rfl⟩⟩, .inr ⟨_, rfl, rfl, .inl ⟨rfl, Do.load tf_flat4 rfl (Cell.own 2 0 rfl rfl rfl)⟩⟩, trivial⟩, List.cons_ne_nil _ _, by kernel_rfl, by kernel_rfl, ⟨_, rfl, rfl, rfl, _, Do.append (l := []) (news := fs) 0 tf_el22 rfl o45 (Rd.skip 3 h) (by simp; omega) rfl rfl, ?_⟩, trivial⟩
        rintro _ _ ⟨A46, C47, s48, o49, rfl, rfl⟩
        refine ⟨[], [8], rfl, ?_⟩
        refine ⟨⟨.inr ⟨_, rfl, rfl, .inl ⟨rfl, Do.fieldAddrB tf_fo54_0 rfl rfl⟩⟩, .inr ⟨_, rfl, rfl, .inl ⟨rfl, Do.load tf_flat3 rfl (Cell.own 2 0 rfl rfl rfl)⟩⟩, .inl (by kernel_rfl), .inl (by kernel_rfl), .inr ⟨_, rfl, rfl, .inl ⟨rfl, Do.fieldAddrB tf_fo54_2 rfl rfl⟩⟩, .inr ⟨_, rfl, rfl, .inl ⟨rfl, Do.load tf_flat25 rfl (Cell.own 2 0 rfl rfl rfl)⟩⟩, .inr ⟨_, rfl, rfl, .inl ⟨rfl, Do.fieldAddrB tf_fo54_3 rfl rfl⟩⟩, .inr ⟨_, rfl, rfl, .inl ⟨rfl, Do.load tf_flat4 rfl (Cell.own 2 0 rfl rfl rfl)⟩⟩, trivial⟩, List.cons_ne_nil _ _, by kernel_rfl, by kernel_rfl, ⟨_, rfl, rfl, rfl, _, Do.call tf_body30 rfl (copy_ok (l := b) (Rd.skip 3 h2) (by omega)), ?_⟩, trivial⟩
        rintro _ _ ⟨A50, C51, s52, o53, rfl, rfl⟩
        refine ⟨[(11, .agg #[.int .i64 st, .slice A46 fs.length C47, .slice A50 b.length C51, .bool kp])], [13], rfl, ?_⟩
        refine ⟨⟨.inr ⟨_, rfl, rfl, .inl ⟨rfl, Do.build (cs := [.int .i64 st, .slice A46 fs.length C47, .slice A50 b.length C51, .bool kp]) tf_lay54 rfl rfl⟩⟩, .inr ⟨_, rfl, rfl, .inl ⟨rfl, Do.fieldAddrB tf_fo54_0 rfl rfl⟩⟩, .inr ⟨_, rfl, rfl, .inl ⟨rfl, Do.load tf_flat3 rfl (Cell.own 3 0 rfl rfl rfl)⟩⟩, .inl (by kernel_rfl), .inl (by kernel_rfl), .inl (by kernel_rfl), .inl (by kernel_rfl), .inr ⟨_, rfl, rfl, .inl ⟨rfl, Do.fieldAddrB tf_fo54_3 rfl rfl⟩⟩, .inr ⟨_, rfl, rfl, .inl ⟨rfl, Do.load tf_flat4 rfl (Cell.own 3 0 rfl rfl rfl)⟩⟩, trivial⟩, List.cons_ne_nil _ _, by kernel_rfl, by kernel_rfl, ⟨_, rfl, rfl, rfl, _, Do.store (H' := s52 :: s48 :: [(b19, .cells #[.int .i64 st, .slice A46 fs.length C47, .slice A50 b.length C51, .bool kp] 54 (0, 0))] :: [(b1, .cells #[.int .i64 st, .slice A fs.length C, .slice A2 b.length C2, .bool kp] 54 (0, 0))] :: H) 2 0 tf_sz54 rfl rfl rfl rfl rfl rfl rfl rfl rfl, ?_⟩, trivial⟩
        rintro _ _ ⟨rfl, rfl⟩
        refine ⟨[], [], rfl, ?_⟩
        refine ⟨⟨.inl (by kernel_rfl), .inl (by kernel_rfl), .inl (by kernel_rfl), .inl (by kernel_rfl), .inl (by kernel_rfl), .inl (by kernel_rfl), .inl (by kernel_rfl), .inl (by kernel_rfl), .inl (by kernel_rfl), trivial⟩, by kernel_rfl, ?_⟩
        refine At.pick (H' := [(b19, .cells #[.int .i64 st, .slice A46 fs.length C47, .slice A50 b.length C51, .bool kp] 54 (0, 0))] :: s52 :: s48 :: [(b1, .cells #[.int .i64 st, .slice A fs.length C, .slice A2 b.length C2, .bool kp] 54 (0, 0))] :: H) [2, 0, 1, 3] 4 rfl rfl ?_
        exact J _ _ ⟨b19, ⟨A50, C51, b, s52, o53⟩, ⟨A46, C47, fs, s48, o49⟩, rfl, rfl, ⟨rfl, rfl, trivial⟩, rfl⟩
    · skip
      rintro E2 H2 ⟨b15, xs13, xs9, hxs13, hxs9, hsub, rfl⟩
      refine At.mono hsub ?_
      clear hsub
      obtain ⟨Axs13, Cxs13, lxs13, sxs13, oxs13⟩ := xs13
      dsimp only at hxs13 ⊢
      obtain rfl : b = lxs13 := hxs13.symm
      obtain ⟨Axs9, Cxs9, lxs9, sxs9, oxs9⟩ := xs9
      dsimp only at hxs9 ⊢
      obtain rfl : fs = lxs9 := hxs9.symm
      refine At.seq ?_
      refine At.region ?_
      refine AtL.loadN (cs := [.int .i64 st, .slice Axs9 fs.length Cxs9, .slice Axs13 b.length Cxs13, .bool kp]) tf_agg54 (.inl rfl) rfl rfl rfl (cellsOwn 0 0 0 rfl rfl rfl) ?_
      refine AtL.call tf_body31 (.inl rfl) rfl rfl (rwrite_okP (st := st) (fs := fs) (b := b) (kp := kp) (oxs9.rd (i := 2) rfl) (oxs13.rd (i := 1) rfl) hfl hb T10) ?_
      rintro _ _ ⟨⟨A54, C55, l56, s57, o58⟩, hx59, rfl, rfl⟩
      obtain rfl : respL ⟨st, fs, b, kp⟩ = l56 := hx59.symm
      refine AtL.move (.inl rfl) rfl rfl ?_
      refine AtL.extract (.inl rfl) rfl rfl rfl ?_
      refine AtL.extract (.inl rfl) rfl rfl rfl ?_
      refine AtL.assign (.inl rfl) rfl rfl ?_
      refine AtL.assign (.inl rfl) rfl rfl ?_
      refine AtL.done ?_
      refine At.seq ?_
      refine At.region ?_
      refine AtL.loadN (cs := [.int .i64 st, .slice A fs.length C, .slice A2 b.length C2, .bool kp]) tf_agg54 (.inl rfl) rfl rfl rfl (cellsOwn 4 0 0 rfl rfl rfl) ?_
      refine AtL.call tf_body32 (.inl rfl) rfl rfl (rrwrite_okP (st := st) (fs := fs) (b := b) (kp := kp) (Rd.skip 5 h) (Rd.skip 5 h2) hfl hb T10) ?_
      rintro _ _ ⟨⟨A60, C61, l62, s63, o64⟩, hx65, rfl, rfl⟩
      obtain rfl : respL ⟨st, fs, b, kp⟩ = l62 := hx65.symm
      refine AtL.move (.inl rfl) rfl rfl ?_
      refine AtL.extract (.inl rfl) rfl rfl rfl ?_
      refine AtL.extract (.inl rfl) rfl rfl rfl ?_
      refine AtL.assign (.inl rfl) rfl rfl ?_
      refine AtL.assign (.inl rfl) rfl rfl ?_
      refine AtL.done ?_
      refine At.seq ?_
      refine At.seq ?_
      refine At.draw (es := []) (pv := [(0, .int .i64 (respE ⟨st, fs, b, kp⟩)), (1, .int .i64 (respE ⟨st, fs, b, kp⟩)), (2, .bool false), (3, .bool false), (4, .slice A54 (respL ⟨st, fs, b, kp⟩).length C55), (5, .slice A60 (respL ⟨st, fs, b, kp⟩).length C61), (6, .bool true), (7, .bool false), (8, .bool false), (9, .bool false), (10, .agg #[.int .i64 st, .slice Axs9 fs.length Cxs9, .slice Axs13 b.length Cxs13, .bool kp]), (11, .int .i64 (respE ⟨st, fs, b, kp⟩)), (12, .agg #[.int .i64 st, .slice A fs.length C, .slice A2 b.length C2, .bool kp]), (13, .int .i64 (respE ⟨st, fs, b, kp⟩)), (14, .bool false), (15, .bool false)]) tf_mixed (by kernel_rfl) (by kernel_rfl) (by kernel_rfl) ?_
      refine ⟨⟨.inr ⟨_, rfl, rfl, .inl ⟨rfl, Do.move rfl⟩⟩, .inr ⟨_, rfl, rfl, .inl ⟨rfl, Do.move rfl⟩⟩, .inr ⟨_, rfl, rfl, .inl ⟨rfl, Do.asBool (Do.nei rfl rfl) (congrArg not (decide_eq_true rfl))⟩⟩, .inr ⟨_, rfl, rfl, .inl ⟨rfl, Do.move rfl⟩⟩, .inr ⟨_, rfl, rfl, .inl ⟨⟨_, _, _, rfl, rfl, rfl, rfl⟩, Do.move rfl⟩⟩, .inr ⟨_, rfl, rfl, .inl ⟨⟨_, _, _, rfl, rfl, rfl, rfl⟩, Do.move rfl⟩⟩, .inr ⟨_, rfl, rfl, .inl ⟨⟨_, _, _, rfl, rfl, rfl, rfl⟩, Do.asBool (Do.call tf_body19 rfl (same_ok (l := respL ⟨st, fs, b, kp⟩) (l2 := respL ⟨st, fs, b, kp⟩) (o58.rd (i := 1) rfl) (o64.rd (i := 0) rfl))) (decide_eq_true rfl)⟩⟩, .inr ⟨_, rfl, rfl, .inl ⟨⟨_, _, _, rfl, rfl, rfl, rfl⟩, Do.not (b := true) rfl⟩⟩, .inr ⟨_, rfl, rfl, .inl ⟨rfl, Do.pickF rfl rfl⟩⟩, .inr ⟨_, rfl, rfl, .inl ⟨rfl, Do.move rfl⟩⟩, .inr ⟨_, rfl, rfl, .inl ⟨⟨_, _, _, rfl, rfl, rfl, rfl⟩, Do.loadN (cs := [.int .i64 st, .slice Axs9 fs.length Cxs9, .slice Axs13 b.length Cxs13, .bool kp]) tf_agg54 rfl rfl (cellsOwn 2 0 0 rfl rfl rfl)⟩⟩, .inr ⟨_, rfl, rfl, .inl ⟨⟨_, _, _, rfl, rfl, rfl, rfl⟩, Do.call tf_body33 rfl (rchk_ok0 (st := st) (fs := fs) (b := b) (kp := kp) (oxs9.rd (i := 4) rfl) (oxs13.rd (i := 3) rfl) hfl hb)⟩⟩, .inr ⟨_, rfl, rfl, .inl ⟨⟨_, _, _, rfl, rfl, rfl, rfl⟩, Do.loadN (cs := [.int .i64 st, .slice A fs.length C, .slice A2 b.length C2, .bool kp]) tf_agg54 rfl rfl (cellsOwn 5 0 0 rfl rfl rfl)⟩⟩, .inr ⟨_, rfl, rfl, .inl ⟨⟨_, _, _, rfl, rfl, rfl, rfl⟩, Do.call tf_body34 rfl (rrchk_ok0 (st := st) (fs := fs) (b := b) (kp := kp) (Rd.skip 6 h) (Rd.skip 6 h2) hfl hb)⟩⟩, .inr ⟨_, rfl, rfl, .inl ⟨⟨_, _, _, rfl, rfl, rfl, rfl⟩, Do.asBool (Do.nei rfl rfl) (congrArg not (decide_eq_true rfl))⟩⟩, .inr ⟨_, rfl, rfl, .inl ⟨rfl, Do.pickF rfl rfl⟩⟩, trivial⟩, by kernel_rfl, ?_⟩
      refine At.mono (E' := [(1, .pointer (some ⟨b1, 0, none⟩)), (3, .pointer (some ⟨b15, 0, none⟩)), (4, .slice A54 (respL ⟨st, fs, b, kp⟩).length C55), (48, .bool false)]) ⟨rfl, rfl, rfl, rfl, trivial⟩ ?_
      refine At.condF rfl ?_
      refine At.skip ?_
      refine At.seq ?_
      refine At.region ?_
      refine AtL.move (.inl rfl) rfl rfl ?_
      refine AtL.pick (H' := s57 :: s63 :: [(b15, .cells #[.int .i64 st, .slice Axs9 fs.length Cxs9, .slice Axs13 b.length Cxs13, .bool kp] 54 (0, 0))] :: sxs13 :: sxs9 :: [(b1, .cells #[.int .i64 st, .slice A fs.length C, .slice A2 b.length C2, .bool kp] 54 (0, 0))] :: H) [1, 0, 2, 3, 4, 5] 6 rfl rfl ?_
      refine AtL.call tf_body20 (.inl rfl) rfl rfl (over_own o58) ?_
      rintro _ _ ⟨s66, rfl, rfl⟩
      refine AtL.done ?_
      refine At.seq ?_
      refine At.region ?_
      refine AtL.loadN (cs := [.int .i64 st, .slice Axs9 fs.length Cxs9, .slice Axs13 b.length Cxs13, .bool kp]) tf_agg54 (.inl rfl) rfl rfl rfl (cellsOwn 2 0 0 rfl rfl rfl) ?_
      refine AtL.loadN (cs := [.int .i64 st, .slice A fs.length C, .slice A2 b.length C2, .bool kp]) tf_agg54 (.inl rfl) rfl rfl rfl (cellsOwn 5 0 0 rfl rfl rfl) ?_
      refine AtL.call tf_body35 (.inl rfl) rfl rfl (sameresp_ok (st := st) (fs := fs) (b := b) (kp := kp) (st2 := st) (gs := fs) (c := b) (kp2 := kp) (oxs9.rd (i := 4) rfl) (oxs13.rd (i := 3) rfl) (Rd.skip 6 h) (Rd.skip 6 h2)) ?_
      rintro _ _ ⟨rfl, rfl⟩
      refine AtL.move (.inl rfl) rfl rfl ?_
      refine AtL.join 2 (E' := [(56, .bool true)]) (H' := s66 :: s63 :: [(b15, .cells #[.int .i64 st, .slice Axs9 fs.length Cxs9, .slice Axs13 b.length Cxs13, .bool kp] 54 (0, 0))] :: sxs13 :: sxs9 :: [(b1, .cells #[.int .i64 st, .slice A fs.length C, .slice A2 b.length C2, .bool kp] 54 (0, 0))] :: H) (fun J => ?_) ?_
      · refine AtL.split (t := 54) rfl ?_ ?_
        · intro hs54
          have hs54 : (⟨st, fs, b, kp⟩ : RespV) = ⟨st, fs, b, kp⟩ := of_decide_eq_true hs54
          refine AtL.call tf_body29 (.inr ⟨_, _, _, rfl, rfl, rfl, rfl⟩) rfl rfl (awake15_ok T10) ?_
          rintro _ _ ⟨rfl, rfl⟩
          refine AtL.pickT (.inl rfl) rfl rfl rfl ?_
          exact J _ (by exact ⟨rfl, trivial⟩)
        · intro hs54
          have hs54 : ¬ ((⟨st, fs, b, kp⟩ : RespV) = ⟨st, fs, b, kp⟩) := of_decide_eq_false hs54
          exfalso; revert hs54; simp
      · skip
        refine AtL.assign (.inl rfl) rfl rfl ?_
        refine AtL.done ?_
        refine At.pick (H' := H) [] 6 rfl rfl ?_
        exact At.ret Tryd.func6 rfl rfl (⟨rfl, rfl⟩)

set_option maxHeartbeats 400000 in
theorem respplain_ok {w0 : World} {base : Nat} {H : List Seg} (st : Int) (kp : Bool) (T10 : Tab10 w0 base) :
    SCalls Tryd.prog 8 [.int .i64 st, .bool kp] w0 base (H) (fun v H' => v = .bool true ∧ H' = H) := by
  refine SCalls.of_walk (n := 22) Tryd.func8 rfl rfl rfl fun cs => ?_
  refine At.seq ?_
  refine At.region ?_
  refine AtL.assign (.inl rfl) rfl rfl ?_
  refine AtL.done ?_
  refine At.seq ?_
  refine At.region ?_
  refine AtL.move (.inl rfl) rfl rfl ?_
  refine AtL.call tf_body36 (.inl rfl) rfl rfl (reason_ok st) ?_
  rintro _ _ ⟨rfl, hHq⟩
  obtain rfl := hHq.symm
  refine AtL.move (.inl rfl) rfl rfl ?_
  refine AtL.call tf_body37 (.inl rfl) rfl rfl (rreason_ok st) ?_
  rintro _ _ ⟨rfl, hHq⟩
  obtain rfl := hHq.symm
  refine AtL.eqs (a := reasonF st) (b := reasonF st) (.inl rfl) rfl rfl rfl ?_
  refine AtL.move (.inl rfl) rfl rfl ?_
  refine AtL.join 8 (E' := [(18, .bool (decide ((⟨st, [(([67, 111, 110, 116, 101, 110, 116, 45, 84, 121, 112, 101] : List UInt8), ([116, 101, 120, 116, 47, 112, 108, 97, 105, 110] : List UInt8))], reasonF st ++ [10], kp⟩ : RespV) = ⟨st, [(([67, 111, 110, 116, 101, 110, 116, 45, 84, 121, 112, 101] : List UInt8), ([116, 101, 120, 116, 47, 112, 108, 97, 105, 110] : List UInt8))], reasonF st ++ [10], kp⟩)))]) (H' := H) (fun J => ?_) ?_
  · refine AtL.split (t := 10) rfl ?_ ?_
    · intro hs10
      have hs10 : reasonF st = reasonF st := of_decide_eq_true hs10
      refine AtL.move (.inr ⟨_, _, _, rfl, rfl, rfl, rfl⟩) rfl rfl ?_
      refine AtL.move (.inr ⟨_, _, _, rfl, rfl, rfl, rfl⟩) rfl rfl ?_
      refine AtL.call tf_body38 (.inr ⟨_, _, _, rfl, rfl, rfl, rfl⟩) rfl rfl (plain_ok st kp) ?_
      rintro _ _ ⟨⟨A1, C2, l3, s4, o5⟩, ⟨A6, C7, l8, s9, o10⟩, hx11, hx12, rfl, rfl⟩
      obtain rfl : [(([67, 111, 110, 116, 101, 110, 116, 45, 84, 121, 112, 101] : List UInt8), ([116, 101, 120, 116, 47, 112, 108, 97, 105, 110] : List UInt8))] = l3 := hx11.symm
      obtain rfl : reasonF st ++ [10] = l8 := hx12.symm
      refine AtL.move (.inr ⟨_, _, _, rfl, rfl, rfl, rfl⟩) rfl rfl ?_
      refine AtL.move (.inr ⟨_, _, _, rfl, rfl, rfl, rfl⟩) rfl rfl ?_
      refine AtL.call tf_body39 (.inr ⟨_, _, _, rfl, rfl, rfl, rfl⟩) rfl rfl (rplain_ok st kp) ?_
      rintro _ _ ⟨⟨A13, C14, l15, s16, o17⟩, ⟨A18, C19, l20, s21, o22⟩, hx23, hx24, rfl, rfl⟩
      obtain rfl : [(([67, 111, 110, 116, 101, 110, 116, 45, 84, 121, 112, 101] : List UInt8), ([116, 101, 120, 116, 47, 112, 108, 97, 105, 110] : List UInt8))] = l15 := hx23.symm
      obtain rfl : reasonF st ++ [10] = l20 := hx24.symm
      refine AtL.call tf_body35 (.inr ⟨_, _, _, rfl, rfl, rfl, rfl⟩) rfl rfl (sameresp_ok (st := st) (fs := [(([67, 111, 110, 116, 101, 110, 116, 45, 84, 121, 112, 101] : List UInt8), ([116, 101, 120, 116, 47, 112, 108, 97, 105, 110] : List UInt8))]) (b := reasonF st ++ [10]) (kp := kp) (st2 := st) (gs := [(([67, 111, 110, 116, 101, 110, 116, 45, 84, 121, 112, 101] : List UInt8), ([116, 101, 120, 116, 47, 112, 108, 97, 105, 110] : List UInt8))]) (c := reasonF st ++ [10]) (kp2 := kp) (o5.rd (i := 2) rfl) (o10.rd (i := 3) rfl) (o17.rd (i := 0) rfl) (o22.rd (i := 1) rfl)) ?_
      rintro _ _ ⟨rfl, rfl⟩
      refine AtL.pickT (.inl rfl) rfl rfl rfl ?_
      refine AtL.pick (H' := H) [] 4 rfl rfl ?_
      exact J _ (by exact ⟨(boolIs (by clear J; first | (simp [hs10]; done) | (simp_all; done) | grind)), trivial⟩)
    · intro hs10
      exact Bool.noConfusion (hs10.symm.trans (decide_eq_true rfl))
  · skip
    refine AtL.move (.inl rfl) rfl rfl ?_
    refine AtL.join 2 (E' := [(21, .bool true)]) (H' := H) (fun J => ?_) ?_
    · refine AtL.split (t := 19) rfl ?_ ?_
      · intro hs19
        have hs19 : (⟨st, [(([67, 111, 110, 116, 101, 110, 116, 45, 84, 121, 112, 101] : List UInt8), ([116, 101, 120, 116, 47, 112, 108, 97, 105, 110] : List UInt8))], reasonF st ++ [10], kp⟩ : RespV) = ⟨st, [(([67, 111, 110, 116, 101, 110, 116, 45, 84, 121, 112, 101] : List UInt8), ([116, 101, 120, 116, 47, 112, 108, 97, 105, 110] : List UInt8))], reasonF st ++ [10], kp⟩ := of_decide_eq_true hs19
        refine AtL.call tf_body29 (.inr ⟨_, _, _, rfl, rfl, rfl, rfl⟩) rfl rfl (awake15_ok T10) ?_
        rintro _ _ ⟨rfl, hHq⟩
        obtain rfl := hHq.symm
        refine AtL.pickT (.inl rfl) rfl rfl rfl ?_
        exact J _ (by exact ⟨rfl, trivial⟩)
      · intro hs19
        have hs19 : ¬ ((⟨st, [(([67, 111, 110, 116, 101, 110, 116, 45, 84, 121, 112, 101] : List UInt8), ([116, 101, 120, 116, 47, 112, 108, 97, 105, 110] : List UInt8))], reasonF st ++ [10], kp⟩ : RespV) = ⟨st, [(([67, 111, 110, 116, 101, 110, 116, 45, 84, 121, 112, 101] : List UInt8), ([116, 101, 120, 116, 47, 112, 108, 97, 105, 110] : List UInt8))], reasonF st ++ [10], kp⟩) := of_decide_eq_false hs19
        exfalso; revert hs19; simp
    · skip
      refine AtL.assign (.inl rfl) rfl rfl ?_
      refine AtL.done ?_
      exact At.ret Tryd.func8 rfl rfl (⟨rfl, rfl⟩)

end Go.Proofs.YtlfkoimkojbghaaDoor
