/- The contracts of package ostiarykit: heads. -/
import Derived.Laws.StructEq
import Derived.Test.YtlfkoimkojbghaaDoorE5
namespace Go.Proofs.YtlfkoimkojbghaaDoor
set_option linter.unusedVariables false
set_option linter.unusedSimpArgs false
set_option maxRecDepth 100000

theorem neqField_run (x y : Fld) (ox oy : Operand) (w : World) : (do eqGuard .neq 67 ox oy (tyField.val x) (tyField.val y); binOp .neq 67 (tyField.val x) (tyField.val y) : Sem Value).run Tryd.prog w = .ok (.bool (!decide (x = y))) w := by
  obtain ⟨a, c⟩ := x
  obtain ⟨d, e⟩ := y
  have hf : (Tryd.prog.fieldsOf 67).toList = [{ name := "Name", type := 9, offset := 0, embedded := false, tag := "", pkgPath := "", byteOffset := 0 }, { name := "Value", type := 9, offset := 1, embedded := false, tag := "", pkgPath := "", byteOffset := 16 }] := by kernel_rfl
  have hs : ∀ (l m : List UInt8) w, (Op.equalIn 9999 9 (str l) (str m)).run Tryd.prog w = .ok (decide (l = m)) w := fun l m w => by
    rw [str, str, run_equalIn_string w 9998 9 _ _ Tryd.underlying9, ba_toList, ba_toList, beq_dec]
  have p0 : ∀ (l m : List UInt8) w, (part 9 #[str l, str m] 0).run Tryd.prog w = .ok (str l) w := fun l m w => by simp [part, Tryd.isAgg9]
  have p1 : ∀ (l m : List UInt8) w, (part 9 #[str l, str m] 1).run Tryd.prog w = .ok (str m) w := fun l m w => by simp [part, Tryd.isAgg9]
  have he : Tryd.prog.eqGuardType Tryd.prog.depth 67 = false := by kernel_rfl
  have hu : Tryd.prog.underlying 67 = some (.struct (Tryd.prog.fieldsOf 67)) := by kernel_rfl
  have hst : Tryd.prog.stoodInHeld 67 = false := by kernel_rfl
  simp only [tyField, Sem.run_bind, run_eqGuard_agg w .neq 67 ox oy _ _ he, Result.andThen_ok, run_neq_struct, run_equalIn_agg w 9999 67 _ _ hu hst, hf, Op.eqFields]
  by_cases h1 : a = d
  · by_cases h2 : c = e
    · simp [p0, p1, hs, h1, h2]
    · simp [p0, p1, hs, h1, h2]
  · simp [p0, p1, hs, h1]
theorem take_eqF {a b : List Fld} {k : Nat} (ha : k < a.length) (hb : k < b.length) (h : a.take k = b.take k) (hk : a.getD k ([], []) = b.getD k ([], [])) : a.take (k + 1) = b.take (k + 1) := by
  rw [List.take_succ_eq_append_getElem ha, List.take_succ_eq_append_getElem hb, h]
  simp [List.getD, ha, hb] at hk
  rw [hk]

set_option maxHeartbeats 400000 in
theorem samefields_ok {w0 : World} {base : Nat} {H : List Seg} {A Aq : Option Addr} {C Cq : Nat} {fs gs : List (List UInt8 × List UInt8)} (h : Rd tyField w0 base H A C fs) (hq : Rd tyField w0 base H Aq Cq gs) :
    SCalls Tryd.prog 58 [.slice A fs.length C, .slice Aq gs.length Cq] w0 base (H) (fun v H' => v = .bool (decide (fs = gs)) ∧ H' = H) := by
  have hle0 := h.le
  have hcap0 := h.cap
  have hle1 := hq.le
  have hcap1 := hq.cap
  refine SCalls.of_walk (n := 26) Tryd.func58 rfl rfl rfl fun cs => ?_
  refine At.seq ?_
  refine At.region ?_
  refine AtL.assign (.inl rfl) rfl rfl ?_
  refine AtL.done ?_
  refine At.seq ?_
  refine At.seq ?_
  refine At.region ?_
  refine AtL.move (.inl rfl) rfl rfl ?_
  refine AtL.lenL Tryd.underlying22 (.inl rfl) rfl rfl ?_
  refine AtL.move (.inl rfl) rfl rfl ?_
  refine AtL.lenL Tryd.underlying22 (.inl rfl) rfl rfl ?_
  refine AtL.nei (.inl rfl) rfl rfl rfl ?_
  refine AtL.done ?_
  refine At.cond rfl ?_ ?_
  · intro hc1
    have hc1 : ¬ ((fs.length : Int) = (gs.length : Int)) := of_decide_eq_false (bnot_true hc1)
    refine At.seq ?_
    refine At.region ?_
    refine AtL.assign (.inl rfl) rfl rfl ?_
    refine AtL.done ?_
    exact At.ret Tryd.func58 rfl rfl (⟨congrArg Value.bool (decide_eq_false (fun h => by rw [h] at hc1; exact hc1 rfl)).symm, rfl⟩)
  · intro hc1
    have hc1 : (fs.length : Int) = (gs.length : Int) := of_decide_eq_true (bnot_false hc1)
    refine At.skip ?_
    refine At.seq ?_
    refine At.seq ?_
    refine At.region ?_
    refine AtL.assign (.inl rfl) rfl rfl ?_
    refine AtL.done ?_
    refine At.block ?_
    refine At.loop (fun (k : Nat) => [(0, .slice A fs.length C), (1, .slice Aq gs.length Cq), (5, .int .i64 (k : Int))]) (fun (k : Nat) => H) (fun (k : Nat) => k ≤ fs.length ∧ fs.take k = gs.take k) (fun (k : Nat) => fs.length - k) 0 (⟨Nat.zero_le _, rfl⟩) ⟨rfl, rfl, rfl, trivial⟩ rfl ?_
    rintro k ⟨hk, ht⟩ ihL1
    refine At.seq ?_
    refine At.seq ?_
    refine At.region ?_
    refine AtL.move (.inl rfl) rfl rfl ?_
    refine AtL.move (.inl rfl) rfl rfl ?_
    refine AtL.lenL Tryd.underlying22 (.inl rfl) rfl rfl ?_
    refine AtL.lss (.inl rfl) rfl rfl rfl ?_
    refine AtL.done ?_
    refine At.cond rfl ?_ ?_
    · intro hc2
      have hc2 : (k : Int) < (fs.length : Int) := of_decide_eq_true hc2
      refine At.skip ?_
      refine At.seq ?_
      refine At.block ?_
      refine At.seq ?_
      refine At.draw (es := []) (pv := [(0, .slice A fs.length C), (1, .int .i64 (k : Int)), (2, .pointer (some (eaddr A (k * tyField.sz)))), (3, tyField.val (fs.getD k (([], []) : List UInt8 × List UInt8))), (4, .slice Aq gs.length Cq), (5, .int .i64 (k : Int)), (6, .pointer (some (eaddr Aq (k * tyField.sz)))), (7, tyField.val (gs.getD k (([], []) : List UInt8 × List UInt8))), (8, .bool (!(decide ((fs.getD k (([], []) : List UInt8 × List UInt8)) = (gs.getD k (([], []) : List UInt8 × List UInt8))))))]) tf_mixed (by kernel_rfl) (by kernel_rfl) (by kernel_rfl) ?_
      refine ⟨⟨.inr ⟨_, rfl, rfl, .inl ⟨rfl, Do.move rfl⟩⟩, .inr ⟨_, rfl, rfl, .inl ⟨rfl, Do.move rfl⟩⟩, .inr ⟨_, rfl, rfl, .inl ⟨rfl, Do.indexL k h Tryd.underlying22 tf_sz67 rfl rfl rfl (by omega)⟩⟩, .inr ⟨_, rfl, rfl, .inl ⟨rfl, Do.loadE (n := 0) h (getD_some (([], []) : List UInt8 × List UInt8) (by omega)) rfl tf_agg67 rfl⟩⟩, .inr ⟨_, rfl, rfl, .inl ⟨rfl, Do.move rfl⟩⟩, .inr ⟨_, rfl, rfl, .inl ⟨rfl, Do.move rfl⟩⟩, .inr ⟨_, rfl, rfl, .inl ⟨rfl, Do.indexL k hq Tryd.underlying22 tf_sz67 rfl rfl rfl (by omega)⟩⟩, .inr ⟨_, rfl, rfl, .inl ⟨rfl, Do.loadE (n := 0) hq (getD_some (([], []) : List UInt8 × List UInt8) (by omega)) rfl tf_agg67 rfl⟩⟩, .inr ⟨_, rfl, rfl, .inl ⟨rfl, Do.bin (v := .bool (!decide ((fs.getD k (([], []) : List UInt8 × List UInt8)) = (gs.getD k (([], []) : List UInt8 × List UInt8))))) rfl rfl (fun w => neqField_run (fs.getD k (([], []) : List UInt8 × List UInt8)) (gs.getD k (([], []) : List UInt8 × List UInt8)) _ _ w)⟩⟩, trivial⟩, by kernel_rfl, ?_⟩
      refine At.mono (E' := [(0, .slice A fs.length C), (1, .slice Aq gs.length Cq), (5, .int .i64 (k : Int)), (25, .bool (!(decide ((fs.getD k (([], []) : List UInt8 × List UInt8)) = (gs.getD k (([], []) : List UInt8 × List UInt8))))))]) ⟨rfl, rfl, rfl, rfl, trivial⟩ ?_
      refine At.cond rfl ?_ ?_
      · intro hc3
        have hc3 : ¬ ((fs.getD k (([], []) : List UInt8 × List UInt8)) = (gs.getD k (([], []) : List UInt8 × List UInt8))) := of_decide_eq_false (bnot_true hc3)
        refine At.seq ?_
        refine At.region ?_
        refine AtL.assign (.inl rfl) rfl rfl ?_
        refine AtL.done ?_
        exact At.ret Tryd.func58 rfl rfl (⟨congrArg Value.bool (decide_eq_false (fun h => by rw [h] at hc3; exact hc3 rfl)).symm, rfl⟩)
      · intro hc3
        have hc3 : (fs.getD k (([], []) : List UInt8 × List UInt8)) = (gs.getD k (([], []) : List UInt8 × List UInt8)) := of_decide_eq_true (bnot_false hc3)
        refine At.skip ?_
        refine At.inBlock ?_
        refine At.region ?_
        refine AtL.move (.inl rfl) rfl rfl ?_
        refine AtL.add (z := (k : Int) + 1) (.inl rfl) rfl rfl rfl (w64 (by omega) (by omega)) ?_
        refine AtL.assign (.inl rfl) rfl rfl ?_
        refine AtL.done ?_
        refine ihL1 (k + 1) (⟨by omega, take_eqF (by omega) (by omega) ht (by simpa using hc3)⟩) (by omega) _ ?_
        exact ⟨rfl, rfl, (by first | rfl | exact slLen (by simp []) | exact intEq (by omega) | exact intEq (by simp []) | exact slLen (by simp []; omega)), trivial⟩
    · intro hc2
      have hc2 : ¬ ((k : Int) < (fs.length : Int)) := of_decide_eq_false hc2
      refine At.exit rfl ?_
      refine At.seq ?_
      refine At.region ?_
      refine AtL.assign (.inl rfl) rfl rfl ?_
      refine AtL.done ?_
      exact At.ret Tryd.func58 rfl rfl (⟨congrArg Value.bool (decide_eq_true (by rw [List.take_of_length_le (by omega), List.take_of_length_le (by omega)] at ht; exact ht)).symm, rfl⟩)

theorem headV_eq {a b c d : List UInt8} {n k : Int} {fs gs : List Fld} : ((⟨a, b, n, fs⟩ : HeadV) = ⟨c, d, k, gs⟩) ↔ (((a = c ∧ b = d) ∧ n = k) ∧ fs = gs) := by
  constructor
  · intro h; cases h; exact ⟨⟨⟨rfl, rfl⟩, rfl⟩, rfl⟩
  · rintro ⟨⟨⟨rfl, rfl⟩, rfl⟩, rfl⟩; rfl

set_option maxHeartbeats 400000 in
theorem samehead_ok {w0 : World} {base : Nat} {H : List Seg} {m t m2 t2 : List UInt8} {minor minor2 : Int} {A Aq : Option Addr} {C Cq : Nat} {fs gs : List (List UInt8 × List UInt8)} (h : Rd tyField w0 base H A C fs) (hq : Rd tyField w0 base H Aq Cq gs) :
    SCalls Tryd.prog 21 [.agg #[str m, str t, .int .i64 minor, .slice A fs.length C], .agg #[str m2, str t2, .int .i64 minor2, .slice Aq gs.length Cq]] w0 base (H) (fun v H' => v = .bool (decide ((⟨m, t, minor, fs⟩ : HeadV) = ⟨m2, t2, minor2, gs⟩)) ∧ H' = H) := by
  refine SCalls.of_walk (n := 31) Tryd.func21 rfl rfl rfl fun cs => ?_
  refine At.seq ?_
  refine At.region ?_
  refine AtL.box (cs := #[str m, str t, .int .i64 minor, .slice A fs.length C]) rfl (.inl rfl) rfl rfl ?_
  intro b1
  refine AtL.box (cs := #[str m2, str t2, .int .i64 minor2, .slice Aq gs.length Cq]) rfl (.inl rfl) rfl rfl ?_
  intro b2
  refine AtL.assign (.inl rfl) rfl rfl ?_
  refine AtL.done ?_
  refine At.seq ?_
  refine At.region ?_
  refine AtL.fieldAddrB tf_fo24_0 (.inl rfl) rfl rfl rfl ?_
  refine AtL.load tf_flat9 (.inl rfl) rfl rfl (Cell.own 1 0 rfl rfl rfl) ?_
  refine AtL.fieldAddrB tf_fo24_0 (.inl rfl) rfl rfl rfl ?_
  refine AtL.load tf_flat9 (.inl rfl) rfl rfl (Cell.own 0 0 rfl rfl rfl) ?_
  refine AtL.eqs (a := m) (b := m2) (.inl rfl) rfl rfl rfl ?_
  refine AtL.move (.inl rfl) rfl rfl ?_
  refine AtL.join 6 (E' := [(16, .bool (decide ((m = m2) ∧ (t = t2)))), (2, .pointer (some ⟨b1, 0, none⟩)), (3, .pointer (some ⟨b2, 0, none⟩))]) (H' := [(b2, .cells #[str m2, str t2, .int .i64 minor2, .slice Aq gs.length Cq] 24 (0, 0))] :: [(b1, .cells #[str m, str t, .int .i64 minor, .slice A fs.length C] 24 (0, 0))] :: H) (fun J => ?_) ?_
  · refine AtL.split (t := 10) rfl ?_ ?_
    · intro hs10
      have hs10 : m = m2 := of_decide_eq_true hs10
      refine AtL.fieldAddrB tf_fo24_1 (.inr ⟨_, _, _, rfl, rfl, rfl, rfl⟩) rfl rfl rfl ?_
      refine AtL.load tf_flat9 (.inr ⟨_, _, _, rfl, rfl, rfl, rfl⟩) rfl rfl (Cell.own 1 0 rfl rfl rfl) ?_
      refine AtL.fieldAddrB tf_fo24_1 (.inr ⟨_, _, _, rfl, rfl, rfl, rfl⟩) rfl rfl rfl ?_
      refine AtL.load tf_flat9 (.inr ⟨_, _, _, rfl, rfl, rfl, rfl⟩) rfl rfl (Cell.own 0 0 rfl rfl rfl) ?_
      refine AtL.eqs (a := t) (b := t2) (.inr ⟨_, _, _, rfl, rfl, rfl, rfl⟩) rfl rfl rfl ?_
      refine AtL.pickT (.inl rfl) rfl rfl rfl ?_
      exact J _ (by exact ⟨(boolIs (by clear J; first | (simp [hs10]; done) | (simp_all; done) | grind)), rfl, rfl, trivial⟩)
    · intro hs10
      have hs10 : ¬ (m = m2) := of_decide_eq_false hs10
      refine AtL.skipped rfl rfl rfl rfl rfl rfl ?_
      refine AtL.skipped rfl rfl rfl rfl rfl rfl ?_
      refine AtL.skipped rfl rfl rfl rfl rfl rfl ?_
      refine AtL.skipped rfl rfl rfl rfl rfl rfl ?_
      refine AtL.skipped rfl rfl rfl rfl rfl rfl ?_
      refine AtL.pickF (.inl rfl) rfl rfl rfl ?_
      exact J _ (by exact ⟨(boolIs (by clear J; first | (simp [hs10]; done) | (simp_all; done) | grind)), rfl, rfl, trivial⟩)
  · skip
    refine AtL.move (.inl rfl) rfl rfl ?_
    refine AtL.join 6 (E' := [(23, .bool (decide (((m = m2) ∧ (t = t2)) ∧ ((minor : Int) = minor2)))), (2, .pointer (some ⟨b1, 0, none⟩)), (3, .pointer (some ⟨b2, 0, none⟩))]) (H' := [(b2, .cells #[str m2, str t2, .int .i64 minor2, .slice Aq gs.length Cq] 24 (0, 0))] :: [(b1, .cells #[str m, str t, .int .i64 minor, .slice A fs.length C] 24 (0, 0))] :: H) (fun J => ?_) ?_
    · refine AtL.split (t := 17) rfl ?_ ?_
      · intro hs17
        have hs17 : (m = m2) ∧ (t = t2) := of_decide_eq_true hs17
        refine AtL.fieldAddrB tf_fo24_2 (.inr ⟨_, _, _, rfl, rfl, rfl, rfl⟩) rfl rfl rfl ?_
        refine AtL.load tf_flat3 (.inr ⟨_, _, _, rfl, rfl, rfl, rfl⟩) rfl rfl (Cell.own 1 0 rfl rfl rfl) ?_
        refine AtL.fieldAddrB tf_fo24_2 (.inr ⟨_, _, _, rfl, rfl, rfl, rfl⟩) rfl rfl rfl ?_
        refine AtL.load tf_flat3 (.inr ⟨_, _, _, rfl, rfl, rfl, rfl⟩) rfl rfl (Cell.own 0 0 rfl rfl rfl) ?_
        refine AtL.eqi (.inr ⟨_, _, _, rfl, rfl, rfl, rfl⟩) rfl rfl rfl ?_
        refine AtL.pickT (.inl rfl) rfl rfl rfl ?_
        exact J _ (by exact ⟨(boolIs (by clear J; first | (simp [hs17]; done) | (simp_all; done) | grind)), rfl, rfl, trivial⟩)
      · intro hs17
        have hs17 : ¬ ((m = m2) ∧ (t = t2)) := of_decide_eq_false hs17
        refine AtL.skipped rfl rfl rfl rfl rfl rfl ?_
        refine AtL.skipped rfl rfl rfl rfl rfl rfl ?_
        refine AtL.skipped rfl rfl rfl rfl rfl rfl ?_
        refine AtL.skipped rfl rfl rfl rfl rfl rfl ?_
        refine AtL.skipped rfl rfl rfl rfl rfl rfl ?_
        refine AtL.pickF (.inl rfl) rfl rfl rfl ?_
        exact J _ (by exact ⟨(boolIs (by clear J; first | (simp [hs17]; done) | (simp_all; done) | grind)), rfl, rfl, trivial⟩)
    · skip
      refine AtL.move (.inl rfl) rfl rfl ?_
      refine AtL.join 6 (E' := [(30, .bool (decide ((((m = m2) ∧ (t = t2)) ∧ ((minor : Int) = minor2)) ∧ (fs = gs))))]) (H' := [(b2, .cells #[str m2, str t2, .int .i64 minor2, .slice Aq gs.length Cq] 24 (0, 0))] :: [(b1, .cells #[str m, str t, .int .i64 minor, .slice A fs.length C] 24 (0, 0))] :: H) (fun J => ?_) ?_
      · refine AtL.split (t := 24) rfl ?_ ?_
        · intro hs24
          have hs24 : ((m = m2) ∧ (t = t2)) ∧ ((minor : Int) = minor2) := of_decide_eq_true hs24
          refine AtL.fieldAddrB tf_fo24_3 (.inr ⟨_, _, _, rfl, rfl, rfl, rfl⟩) rfl rfl rfl ?_
          refine AtL.load tf_flat22 (.inr ⟨_, _, _, rfl, rfl, rfl, rfl⟩) rfl rfl (Cell.own 1 0 rfl rfl rfl) ?_
          refine AtL.fieldAddrB tf_fo24_3 (.inr ⟨_, _, _, rfl, rfl, rfl, rfl⟩) rfl rfl rfl ?_
          refine AtL.load tf_flat22 (.inr ⟨_, _, _, rfl, rfl, rfl, rfl⟩) rfl rfl (Cell.own 0 0 rfl rfl rfl) ?_
          refine AtL.call tf_body58 (.inr ⟨_, _, _, rfl, rfl, rfl, rfl⟩) rfl rfl (samefields_ok (fs := fs) (gs := gs) (Rd.skip 2 h) (Rd.skip 2 hq)) ?_
          rintro _ _ ⟨rfl, rfl⟩
          refine AtL.pickT (.inl rfl) rfl rfl rfl ?_
          exact J _ (by exact ⟨(boolIs (by clear J; first | (simp [hs24]; done) | (simp_all; done) | grind)), trivial⟩)
        · intro hs24
          have hs24 : ¬ (((m = m2) ∧ (t = t2)) ∧ ((minor : Int) = minor2)) := of_decide_eq_false hs24
          refine AtL.skipped rfl rfl rfl rfl rfl rfl ?_
          refine AtL.skipped rfl rfl rfl rfl rfl rfl ?_
          refine AtL.skipped rfl rfl rfl rfl rfl rfl ?_
          refine AtL.skipped rfl rfl rfl rfl rfl rfl ?_
          refine AtL.skipped rfl rfl rfl rfl rfl rfl ?_
          refine AtL.pickF (.inl rfl) rfl rfl rfl ?_
          exact J _ (by exact ⟨(boolIs (by clear J; first | (simp [hs24]; done) | (simp_all; done) | grind)), trivial⟩)
      · skip
        refine AtL.assign (.inl rfl) rfl rfl ?_
        refine AtL.done ?_
        refine At.pick (H' := H) [] 2 rfl rfl ?_
        exact At.ret Tryd.func21 rfl rfl (⟨congrArg Value.bool (decide_eq_decide.2 headV_eq.symm), rfl⟩)

set_option maxHeartbeats 400000 in
theorem longfields_ok {w0 : World} {base : Nat} {H : List Seg} {A : Option Addr} {C : Nat} {fs : List (List UInt8 × List UInt8)} (h : Rd tyField w0 base H A C fs) (hb : ∀ f ∈ fs, f.1.length ≤ 140737488355000 ∧ f.2.length ≤ 140737488355000) (most : Int) :
    SCalls Tryd.prog 49 [.slice A fs.length C, .int .i64 most] w0 base (H) (fun v H' => ∃ bl, v = .bool bl ∧ (bl = false → (fs.length : Int) ≤ most ∧ ∀ f ∈ fs, f.1.length ≤ 6000 ∧ f.2.length ≤ 6000) ∧ H' = H) := by
  have hle0 := h.le
  have hcap0 := h.cap
  refine SCalls.of_walk (n := 40) Tryd.func49 rfl rfl rfl fun cs => ?_
  refine At.seq ?_
  refine At.region ?_
  refine AtL.assign (.inl rfl) rfl rfl ?_
  refine AtL.done ?_
  refine At.seq ?_
  refine At.region ?_
  refine AtL.assign (.inl rfl) rfl rfl ?_
  refine AtL.done ?_
  refine At.seq ?_
  refine At.seq ?_
  refine At.region ?_
  refine AtL.assign (.inl rfl) rfl rfl ?_
  refine AtL.done ?_
  refine At.block ?_
  refine At.loop2 (fun (k : Nat) (n : Nat) => [(0, .slice A fs.length C), (1, .int .i64 most), (5, .int .i64 (n : Int)), (6, .int .i64 (k : Int))]) (fun (k : Nat) (n : Nat) => H) (fun (k : Nat) (n : Nat) => k ≤ fs.length ∧ n ≤ 6000 + 2 * 140737488355000 ∧ (∀ f ∈ fs.take k, f.1.length ≤ n ∧ f.2.length ≤ n)) (fun (k : Nat) (n : Nat) => fs.length - k) 0 0 (⟨Nat.zero_le _, by omega, fun f hf => absurd hf (by simp)⟩) ⟨rfl, rfl, rfl, rfl, trivial⟩ rfl ?_
  rintro k n ⟨hk, hn, hfn⟩ ihL1
  refine At.seq ?_
  refine At.seq ?_
  refine At.region ?_
  refine AtL.move (.inl rfl) rfl rfl ?_
  refine AtL.move (.inl rfl) rfl rfl ?_
  refine AtL.lenL Tryd.underlying22 (.inl rfl) rfl rfl ?_
  refine AtL.lss (.inl rfl) rfl rfl rfl ?_
  refine AtL.move (.inl rfl) rfl rfl ?_
  refine AtL.join 3 (E' := [(14, .bool (decide (((k : Int) < (fs.length : Int)) ∧ ((n : Int) ≤ 6000)))), (0, .slice A fs.length C), (1, .int .i64 most), (5, .int .i64 (n : Int)), (6, .int .i64 (k : Int))]) (H' := H) (fun J => ?_) ?_
  · refine AtL.split (t := 11) rfl ?_ ?_
    · intro hs11
      have hs11 : (k : Int) < (fs.length : Int) := of_decide_eq_true hs11
      refine AtL.move (.inr ⟨_, _, _, rfl, rfl, rfl, rfl⟩) rfl rfl ?_
      refine AtL.leq (.inr ⟨_, _, _, rfl, rfl, rfl, rfl⟩) rfl rfl rfl ?_
      refine AtL.pickT (.inl rfl) rfl rfl rfl ?_
      exact J _ (by exact ⟨(boolIs (by clear J; first | (simp [hs11]; done) | (simp_all; done) | grind)), rfl, rfl, rfl, rfl, trivial⟩)
    · intro hs11
      have hs11 : ¬ ((k : Int) < (fs.length : Int)) := of_decide_eq_false hs11
      refine AtL.skipped rfl rfl rfl rfl rfl rfl ?_
      refine AtL.skipped rfl rfl rfl rfl rfl rfl ?_
      refine AtL.pickF (.inl rfl) rfl rfl rfl ?_
      exact J _ (by exact ⟨(boolIs (by clear J; first | (simp [hs11]; done) | (simp_all; done) | grind)), rfl, rfl, rfl, rfl, trivial⟩)
  · skip
    refine AtL.done ?_
    refine At.cond rfl ?_ ?_
    · intro hc1
      have hc1 : ((k : Int) < (fs.length : Int)) ∧ ((n : Int) ≤ 6000) := of_decide_eq_true hc1
      have hbk := hb _ (getD_mem (l := fs) (i := k) (d := (([], []) : List UInt8 × List UInt8)) (by omega))
      refine At.skip ?_
      refine At.seq ?_
      refine At.block ?_
      refine At.draw (es := []) (pv := [(0, .int .i64 (n : Int)), (1, .slice A fs.length C), (2, .int .i64 (k : Int)), (3, .pointer (some (eaddr A (k * tyField.sz)))), (4, .pointer (some ((eaddr A (k * tyField.sz)).add 0))), (5, str ((fs.getD k (([], []) : List UInt8 × List UInt8)).1)), (6, .int .i64 (((fs.getD k (([], []) : List UInt8 × List UInt8)).1).length : Int)), (7, .int .i64 ((n : Int) + (((fs.getD k (([], []) : List UInt8 × List UInt8)).1).length : Int))), (8, .slice A fs.length C), (9, .int .i64 (k : Int)), (10, .pointer (some (eaddr A (k * tyField.sz)))), (11, .pointer (some ((eaddr A (k * tyField.sz)).add 1))), (12, str ((fs.getD k (([], []) : List UInt8 × List UInt8)).2)), (13, .int .i64 (((fs.getD k (([], []) : List UInt8 × List UInt8)).2).length : Int)), (14, .int .i64 (((n : Int) + (((fs.getD k (([], []) : List UInt8 × List UInt8)).1).length : Int)) + (((fs.getD k (([], []) : List UInt8 × List UInt8)).2).length : Int))), (15, .int .i64 (((n : Int) + (((fs.getD k (([], []) : List UInt8 × List UInt8)).1).length : Int)) + (((fs.getD k (([], []) : List UInt8 × List UInt8)).2).length : Int)))]) tf_mixed (by kernel_rfl) (by kernel_rfl) (by kernel_rfl) ?_
      refine ⟨⟨.inr ⟨_, rfl, rfl, .inl ⟨rfl, Do.move rfl⟩⟩, .inr ⟨_, rfl, rfl, .inl ⟨rfl, Do.move rfl⟩⟩, .inr ⟨_, rfl, rfl, .inl ⟨rfl, Do.move rfl⟩⟩, .inr ⟨_, rfl, rfl, .inl ⟨rfl, Do.indexL k h Tryd.underlying22 tf_sz67 rfl rfl rfl (by omega)⟩⟩, .inr ⟨_, rfl, rfl, .inl ⟨rfl, Do.fieldAddr tf_fo67_0 rfl⟩⟩, .inr ⟨_, rfl, rfl, .inl ⟨rfl, Do.load (v := str ((fs.getD k (([], []) : List UInt8 × List UInt8)).1)) tf_flat9 rfl (Rd.cell_at h (j := 0) (getD_some (([], []) : List UInt8 × List UInt8) (by omega)) rfl)⟩⟩, .inr ⟨_, rfl, rfl, .inl ⟨rfl, Do.lenS (l := (fs.getD k (([], []) : List UInt8 × List UInt8)).1) Tryd.underlying9 rfl⟩⟩, .inr ⟨_, rfl, rfl, .inl ⟨rfl, Do.add (z := (n : Int) + (((fs.getD k (([], []) : List UInt8 × List UInt8)).1).length : Int)) rfl rfl (w64 (by omega) (by omega))⟩⟩, .inr ⟨_, rfl, rfl, .inl ⟨rfl, Do.move rfl⟩⟩, .inr ⟨_, rfl, rfl, .inl ⟨rfl, Do.move rfl⟩⟩, .inr ⟨_, rfl, rfl, .inl ⟨rfl, Do.indexL k h Tryd.underlying22 tf_sz67 rfl rfl rfl (by omega)⟩⟩, .inr ⟨_, rfl, rfl, .inl ⟨rfl, Do.fieldAddr tf_fo67_1 rfl⟩⟩, .inr ⟨_, rfl, rfl, .inl ⟨rfl, Do.load (v := str ((fs.getD k (([], []) : List UInt8 × List UInt8)).2)) tf_flat9 rfl (Rd.cell_at h (j := 1) (getD_some (([], []) : List UInt8 × List UInt8) (by omega)) rfl)⟩⟩, .inr ⟨_, rfl, rfl, .inl ⟨rfl, Do.lenS (l := (fs.getD k (([], []) : List UInt8 × List UInt8)).2) Tryd.underlying9 rfl⟩⟩, .inr ⟨_, rfl, rfl, .inl ⟨rfl, Do.add (z := ((n : Int) + (((fs.getD k (([], []) : List UInt8 × List UInt8)).1).length : Int)) + (((fs.getD k (([], []) : List UInt8 × List UInt8)).2).length : Int)) rfl rfl (w64 (by omega) (by omega))⟩⟩, .inr ⟨_, rfl, rfl, .inl ⟨rfl, Do.assign rfl⟩⟩, trivial⟩, by kernel_rfl, ?_⟩
      refine At.mono (E' := [(0, .slice A fs.length C), (1, .int .i64 most), (5, .int .i64 (((n : Int) + (((fs.getD k (([], []) : List UInt8 × List UInt8)).1).length : Int)) + (((fs.getD k (([], []) : List UInt8 × List UInt8)).2).length : Int))), (6, .int .i64 (k : Int))]) ⟨rfl, rfl, rfl, rfl, trivial⟩ ?_
      refine At.inBlock ?_
      refine At.region ?_
      refine AtL.move (.inl rfl) rfl rfl ?_
      refine AtL.add (z := (k : Int) + 1) (.inl rfl) rfl rfl rfl (w64 (by omega) (by omega)) ?_
      refine AtL.assign (.inl rfl) rfl rfl ?_
      refine AtL.done ?_
      refine ihL1 (k + 1) ((n + (((fs.getD k (([], []) : List UInt8 × List UInt8)).1).length)) + (((fs.getD k (([], []) : List UInt8 × List UInt8)).2).length)) (⟨by omega, by omega, fun f hf => by
            rw [List.take_succ_eq_append_getElem (show k < fs.length by omega)] at hf
            rcases List.mem_append.1 hf with hf | hf
            · have := hfn f hf; omega
            · simp only [List.mem_singleton] at hf
              have e : f = fs.getD k ([], []) := by rw [hf]; simp [List.getD, show k < fs.length by omega]
              rw [e]; omega⟩) (by omega) _ ?_
      exact ⟨rfl, rfl, (by first | rfl | exact slLen (by simp []) | exact intEq (by omega) | exact intEq (by simp []) | exact slLen (by simp []; omega)), (by first | rfl | exact slLen (by simp []) | exact intEq (by omega) | exact intEq (by simp []) | exact slLen (by simp []; omega)), trivial⟩
    · intro hc1
      have hc1 : ¬ (((k : Int) < (fs.length : Int)) ∧ ((n : Int) ≤ 6000)) := of_decide_eq_false hc1
      refine At.exit rfl ?_
      refine At.seq ?_
      refine At.region ?_
      refine AtL.move (.inl rfl) rfl rfl ?_
      refine AtL.lenL Tryd.underlying22 (.inl rfl) rfl rfl ?_
      refine AtL.move (.inl rfl) rfl rfl ?_
      refine AtL.gtr (.inl rfl) rfl rfl rfl ?_
      refine AtL.move (.inl rfl) rfl rfl ?_
      refine AtL.join 3 (E' := [(39, .bool (decide ((most < (fs.length : Int)) ∨ (6000 < (n : Int)))))]) (H' := H) (fun J => ?_) ?_
      · refine AtL.split (t := 36) rfl ?_ ?_
        · intro hs36
          have hs36 : most < (fs.length : Int) := of_decide_eq_true hs36
          refine AtL.skipped rfl rfl rfl rfl rfl rfl ?_
          refine AtL.skipped rfl rfl rfl rfl rfl rfl ?_
          refine AtL.pickT (.inl rfl) rfl rfl rfl ?_
          exact J _ (by exact ⟨(boolIs (by clear J; first | (simp [hs36]; done) | (simp_all; done) | grind)), trivial⟩)
        · intro hs36
          have hs36 : ¬ (most < (fs.length : Int)) := of_decide_eq_false hs36
          refine AtL.move (.inr ⟨_, _, _, rfl, rfl, rfl, rfl⟩) rfl rfl ?_
          refine AtL.gtr (.inr ⟨_, _, _, rfl, rfl, rfl, rfl⟩) rfl rfl rfl ?_
          refine AtL.pickF (.inl rfl) rfl rfl rfl ?_
          exact J _ (by exact ⟨(boolIs (by clear J; first | (simp [hs36]; done) | (simp_all; done) | grind)), trivial⟩)
      · skip
        refine AtL.assign (.inl rfl) rfl rfl ?_
        refine AtL.done ?_
        exact At.ret Tryd.func49 rfl rfl (⟨_, rfl, fun hf => by
            have hf := of_decide_eq_false hf
            rw [List.take_of_length_le (by omega)] at hfn
            exact ⟨by omega, fun f hm => by have := hfn f hm; omega⟩, rfl⟩)

set_option maxHeartbeats 400000 in
theorem longhead_ok {w0 : World} {base : Nat} {H : List Seg} {m t : List UInt8} {minor : Int} {A : Option Addr} {C : Nat} {fs : List (List UInt8 × List UInt8)} (h : Rd tyField w0 base H A C fs) (hb : ∀ f ∈ fs, f.1.length ≤ 140737488355000 ∧ f.2.length ≤ 140737488355000) :
    SCalls Tryd.prog 11 [.agg #[str m, str t, .int .i64 minor, .slice A fs.length C]] w0 base (H) (fun v H' => ∃ bl, v = .bool bl ∧ (bl = false → m.length ≤ 6000 ∧ t.length ≤ 6000 ∧ fs.length ≤ 60 ∧ ∀ f ∈ fs, f.1.length ≤ 6000 ∧ f.2.length ≤ 6000) ∧ H' = H) := by
  refine SCalls.of_walk (n := 18) Tryd.func11 rfl rfl rfl fun cs => ?_
  refine At.seq ?_
  refine At.region ?_
  refine AtL.box (cs := #[str m, str t, .int .i64 minor, .slice A fs.length C]) rfl (.inl rfl) rfl rfl ?_
  intro b1
  refine AtL.assign (.inl rfl) rfl rfl ?_
  refine AtL.done ?_
  refine At.seq ?_
  refine At.region ?_
  refine AtL.fieldAddrB tf_fo24_0 (.inl rfl) rfl rfl rfl ?_
  refine AtL.load tf_flat9 (.inl rfl) rfl rfl (Cell.own 0 0 rfl rfl rfl) ?_
  refine AtL.lenS (l := m) Tryd.underlying9 (.inl rfl) rfl rfl ?_
  refine AtL.gtr (.inl rfl) rfl rfl rfl ?_
  refine AtL.move (.inl rfl) rfl rfl ?_
  refine AtL.split (t := 7) rfl ?_ ?_
  · intro hs7
    have hs7 : 6000 < (m.length : Int) := of_decide_eq_true hs7
    refine AtL.skipped rfl rfl rfl rfl rfl rfl ?_
    refine AtL.skipped rfl rfl rfl rfl rfl rfl ?_
    refine AtL.skipped rfl rfl rfl rfl rfl rfl ?_
    refine AtL.skipped rfl rfl rfl rfl rfl rfl ?_
    refine AtL.pickT (.inl rfl) rfl rfl rfl ?_
    refine AtL.move (.inl rfl) rfl rfl ?_
    refine AtL.skipped rfl rfl rfl rfl rfl rfl ?_
    refine AtL.skipped rfl rfl rfl rfl rfl rfl ?_
    refine AtL.skipped rfl rfl rfl rfl rfl rfl ?_
    refine AtL.pickT (.inl rfl) rfl rfl rfl ?_
    refine AtL.assign (.inl rfl) rfl rfl ?_
    refine AtL.done ?_
    refine At.pick (H' := H) [] 1 rfl rfl ?_
    exact At.ret Tryd.func11 rfl rfl (⟨true, rfl, (fun h => by cases h), rfl⟩)
  · intro hs7
    have hs7 : ¬ (6000 < (m.length : Int)) := of_decide_eq_false hs7
    refine AtL.fieldAddrB tf_fo24_1 (.inr ⟨_, _, _, rfl, rfl, rfl, rfl⟩) rfl rfl rfl ?_
    refine AtL.load tf_flat9 (.inr ⟨_, _, _, rfl, rfl, rfl, rfl⟩) rfl rfl (Cell.own 0 0 rfl rfl rfl) ?_
    refine AtL.lenS (l := t) Tryd.underlying9 (.inr ⟨_, _, _, rfl, rfl, rfl, rfl⟩) rfl rfl ?_
    refine AtL.gtr (.inr ⟨_, _, _, rfl, rfl, rfl, rfl⟩) rfl rfl rfl ?_
    refine AtL.pickF (.inl rfl) rfl rfl rfl ?_
    refine AtL.move (.inl rfl) rfl rfl ?_
    refine AtL.split (t := 13) rfl ?_ ?_
    · intro hs13
      have hs13 : 6000 < (t.length : Int) := of_decide_eq_true hs13
      refine AtL.skipped rfl rfl rfl rfl rfl rfl ?_
      refine AtL.skipped rfl rfl rfl rfl rfl rfl ?_
      refine AtL.skipped rfl rfl rfl rfl rfl rfl ?_
      refine AtL.pickT (.inl rfl) rfl rfl rfl ?_
      refine AtL.assign (.inl rfl) rfl rfl ?_
      refine AtL.done ?_
      refine At.pick (H' := H) [] 1 rfl rfl ?_
      exact At.ret Tryd.func11 rfl rfl (⟨true, rfl, (fun h => by cases h), rfl⟩)
    · intro hs13
      have hs13 : ¬ (6000 < (t.length : Int)) := of_decide_eq_false hs13
      refine AtL.fieldAddrB tf_fo24_3 (.inr ⟨_, _, _, rfl, rfl, rfl, rfl⟩) rfl rfl rfl ?_
      refine AtL.load tf_flat22 (.inr ⟨_, _, _, rfl, rfl, rfl, rfl⟩) rfl rfl (Cell.own 0 0 rfl rfl rfl) ?_
      refine AtL.call tf_body49 (.inr ⟨_, _, _, rfl, rfl, rfl, rfl⟩) rfl rfl (longfields_ok (fs := fs) (Rd.skip 1 h) hb 60) ?_
      rintro _ _ ⟨bl2, rfl, hx3, rfl⟩
      have hlong := hx3
      refine AtL.pickF (.inl rfl) rfl rfl rfl ?_
      refine AtL.assign (.inl rfl) rfl rfl ?_
      refine AtL.done ?_
      refine At.pick (H' := H) [] 1 rfl rfl ?_
      exact At.ret Tryd.func11 rfl rfl (⟨_, rfl, fun hf => by
          have hl := hlong hf
          exact ⟨by omega, by omega, by omega, hl.2⟩, rfl⟩)

set_option maxHeartbeats 400000 in
theorem copyhead_ok {w0 : World} {base : Nat} {H : List Seg} {m t : List UInt8} {minor : Int} {A : Option Addr} {C : Nat} {fs : List (List UInt8 × List UInt8)} (h : Rd tyField w0 base H A C fs) (hfl : fs.length ≤ 1000) :
    SCalls Tryd.prog 13 [.agg #[str m, str t, .int .i64 minor, .slice A fs.length C]] w0 base (H) (fun v H' => ∃ x : Sl tyField 67, x.l = fs ∧ v = .agg #[str m, str t, int minor, .slice x.A x.l.length x.C] ∧ H' = x.s :: H) := by
  refine SCalls.of_walk (n := 9) Tryd.func13 rfl rfl rfl fun cs => ?_
  refine At.seq ?_
  refine At.region ?_
  refine AtL.box (cs := #[str m, str t, .int .i64 minor, .slice A fs.length C]) rfl (.inl rfl) rfl rfl ?_
  intro b1
  refine AtL.alloc tf_zero24 (cs := #[str [], str [], .int .i64 0, .slice none 0 0]) rfl (.inl rfl) rfl ?_
  intro b2
  refine AtL.done ?_
  refine At.seq ?_
  refine At.region ?_
  refine AtL.buildSlice (cs := []) Tryd.underlying22 tf_zero67 tf_sz67 rfl rfl (.inl rfl) rfl rfl rfl ?_
  intro b3
  refine AtL.fieldAddrB tf_fo24_3 (.inl rfl) rfl rfl rfl ?_
  refine AtL.load tf_flat22 (.inl rfl) rfl rfl (Cell.own 2 0 rfl rfl rfl) ?_
  refine AtL.own1 tyField (l := ([] : List (List UInt8 × List UInt8))) rfl rfl (by first | decide | simp) ?_
  intro s4 o5
  refine AtL.append (l := []) (news := fs) 0 tf_el22 rfl o5 (Rd.skip 3 h) (by first | omega | (simp only [List.length_append, List.length_cons, List.length_nil]; omega) | (simp; done) | (simp; omega)) (.inl rfl) rfl rfl rfl ?_
  intro A6 C7 s8 o9
  refine AtL.fieldAddrB tf_fo24_3 (.inl rfl) rfl rfl rfl ?_
  refine AtL.store (H' := s8 :: [(b2, .cells #[str [], str [], .int .i64 0, .slice none 0 0] 24 (0, 0))] :: [(b1, .cells #[str m, str t, .int .i64 minor, .slice A6 ([] ++ fs).length C7] 24 (0, 0))] :: H) 2 0 tf_sz22 (.inl rfl) rfl rfl rfl rfl rfl rfl rfl rfl rfl ?_
  refine AtL.done ?_
  refine At.seq ?_
  refine At.region ?_
  refine AtL.loadN (cs := [str m, str t, .int .i64 minor, .slice A6 ([] ++ fs).length C7]) tf_agg24 (.inl rfl) rfl rfl rfl (cellsOwn 2 0 0 rfl rfl rfl) ?_
  refine AtL.store (H' := s8 :: [(b2, .cells #[str m, str t, .int .i64 minor, .slice A6 ([] ++ fs).length C7] 24 (0, 0))] :: [(b1, .cells #[str m, str t, .int .i64 minor, .slice A6 ([] ++ fs).length C7] 24 (0, 0))] :: H) 1 0 tf_sz24 (.inl rfl) rfl rfl rfl rfl rfl rfl rfl rfl rfl ?_
  refine AtL.done ?_
  exact At.retMP (vs := [.agg #[str m, str t, .int .i64 minor, .slice A6 ([] ++ fs).length C7]]) (H2 := s8 :: H) [0] 3 rfl rfl Tryd.func13 rfl ⟨⟨_, rfl, LoadsTo.agg (cs := [str m, str t, .int .i64 minor, .slice A6 ([] ++ fs).length C7]) tf_agg24 rfl (cellsOwn 1 0 0 rfl rfl rfl)⟩, trivial⟩ (⟨⟨A6, C7, [] ++ fs, s8, o9⟩, by simp, rfl, rfl⟩)

end Go.Proofs.YtlfkoimkojbghaaDoor
