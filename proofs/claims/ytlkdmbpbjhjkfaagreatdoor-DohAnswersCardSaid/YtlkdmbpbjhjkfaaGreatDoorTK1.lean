/- The contracts of package ostiarykit: fields. -/
import Derived.Laws.StructEq
import Derived.Test.YtlkdmbpbjhjkfaaGreatDoorT6
namespace Go.Proofs.YtlkdmbpbjhjkfaaGreatDoor
set_option linter.unusedVariables false
set_option linter.unusedSimpArgs false
set_option maxRecDepth 100000

theorem neqField_run (x y : Fld) (ox oy : Operand) (w : World) : (do eqGuard .neq 78 ox oy (tyField.val x) (tyField.val y); binOp .neq 78 (tyField.val x) (tyField.val y) : Sem Value).run Tryz.prog w = .ok (.bool (!decide (x = y))) w := by
  obtain ⟨a, c⟩ := x
  obtain ⟨d, e⟩ := y
  have hf : (Tryz.prog.fieldsOf 78).toList = [{ name := "Name", type := 9, offset := 0, embedded := false, tag := "", pkgPath := "", byteOffset := 0 }, { name := "Value", type := 9, offset := 1, embedded := false, tag := "", pkgPath := "", byteOffset := 16 }] := by kernel_rfl
  have hs : ∀ (l m : List UInt8) w, (Op.equalIn 9999 9 (str l) (str m)).run Tryz.prog w = .ok (decide (l = m)) w := fun l m w => by
    rw [str, str, run_equalIn_string w 9998 9 _ _ Tryz.underlying9, ba_toList, ba_toList, beq_dec]
  have p0 : ∀ (l m : List UInt8) w, (part 9 #[str l, str m] 0).run Tryz.prog w = .ok (str l) w := fun l m w => by simp [part, Tryz.isAgg9]
  have p1 : ∀ (l m : List UInt8) w, (part 9 #[str l, str m] 1).run Tryz.prog w = .ok (str m) w := fun l m w => by simp [part, Tryz.isAgg9]
  have he : Tryz.prog.eqGuardType Tryz.prog.depth 78 = false := by kernel_rfl
  have hu : Tryz.prog.underlying 78 = some (.struct (Tryz.prog.fieldsOf 78)) := by kernel_rfl
  have hst : Tryz.prog.stoodInHeld 78 = false := by kernel_rfl
  simp only [tyField, Sem.run_bind, run_eqGuard_agg w .neq 78 ox oy _ _ he, Result.andThen_ok, run_neq_struct, run_equalIn_agg w 9999 78 _ _ hu hst, hf, Op.eqFields]
  by_cases h1 : a = d
  · by_cases h2 : c = e
    · simp [p0, p1, hs, h1, h2]
    · simp [p0, p1, hs, h1, h2]
  · simp [p0, p1, hs, h1]
theorem take_eqF {a b : List Fld} {k : Nat} (ha : k < a.length) (hb : k < b.length) (h : a.take k = b.take k) (hk : a.getD k ([], []) = b.getD k ([], [])) : a.take (k + 1) = b.take (k + 1) := by
  rw [List.take_succ_eq_append_getElem ha, List.take_succ_eq_append_getElem hb, h]
  simp [List.getD, ha, hb] at hk
  rw [hk]

set_option maxHeartbeats 400000 in
theorem samefields_ok {w0 : World} {base : Nat} {H : List Seg} {A Aq : Option Addr} {C Cq : Nat} {fs gs : List (List UInt8 × List UInt8)} (h : Rd tyField w0 base H A C fs) (hq : Rd tyField w0 base H Aq Cq gs) :
    SCalls Tryz.prog 85 [.slice A fs.length C, .slice Aq gs.length Cq] w0 base (H) (fun v H' => v = .bool (decide (fs = gs)) ∧ H' = H) := by
  have hle0 := h.le
  have hcap0 := h.cap
  have hle1 := hq.le
  have hcap1 := hq.cap
  refine SCalls.of_walk (n := 26) Tryz.func85 rfl rfl rfl fun cs => ?_
  refine At.seq ?_
  refine At.region ?_
  refine AtL.assign (.inl rfl) rfl rfl ?_
  refine AtL.done ?_
  refine At.seq ?_
  refine At.seq ?_
  refine At.region ?_
  refine AtL.move (.inl rfl) rfl rfl ?_
  refine AtL.lenL Tryz.underlying45 (.inl rfl) rfl rfl ?_
  refine AtL.move (.inl rfl) rfl rfl ?_
  refine AtL.lenL Tryz.underlying45 (.inl rfl) rfl rfl ?_
  refine AtL.nei (.inl rfl) rfl rfl rfl ?_
  refine AtL.done ?_
  refine At.cond rfl ?_ ?_
  · intro hc1
    have hc1 : ¬ ((fs.length : Int) = (gs.length : Int)) := of_decide_eq_false (bnot_true hc1)
    refine At.seq ?_
    refine At.region ?_
    refine AtL.assign (.inl rfl) rfl rfl ?_
    refine AtL.done ?_
    exact At.ret Tryz.func85 rfl rfl (⟨congrArg Value.bool (decide_eq_false (fun h => by rw [h] at hc1; exact hc1 rfl)).symm, rfl⟩)
  · intro hc1
    have hc1 : (fs.length : Int) = (gs.length : Int) := of_decide_eq_true (bnot_false hc1)
    refine At.skip ?_
    refine At.seq ?_
    refine At.seq ?_
    refine At.region ?_
    refine AtL.assign (.inl rfl) rfl rfl ?_
    refine AtL.done ?_
    refine At.block ?_
    refine At.loop (fun (k : Nat) => [(0, .slice A fs.length C), (1, .slice Aq gs.length Cq), (5, .int .i64 (k : Int))]) (fun (k : Nat) => H) (fun (k : Nat) => k ≤ fs.length ∧ fs.take k = gs.take k) (fun (k : Nat) => fs.length - k) 0 (⟨Nat.zero_le _, rfl⟩) ⟨rfl, rfl, rfl, trivial⟩ rfl ?_
    rintro k ⟨hk, ht⟩ ihL1
    refine At.seq ?_
    refine At.seq ?_
    refine At.region ?_
    refine AtL.move (.inl rfl) rfl rfl ?_
    refine AtL.move (.inl rfl) rfl rfl ?_
    refine AtL.lenL Tryz.underlying45 (.inl rfl) rfl rfl ?_
    refine AtL.lss (.inl rfl) rfl rfl rfl ?_
    refine AtL.done ?_
    refine At.cond rfl ?_ ?_
    · intro hc2
      have hc2 : (k : Int) < (fs.length : Int) := of_decide_eq_true hc2
      refine At.skip ?_
      refine At.seq ?_
      refine At.block ?_
      refine At.seq ?_
      refine At.draw (es := []) (pv := [(0, .slice A fs.length C), (1, .int .i64 (k : Int)), (2, .pointer (some (eaddr A (k * tyField.sz)))), (3, tyField.val (fs.getD k (([], []) : List UInt8 × List UInt8))), (4, .slice Aq gs.length Cq), (5, .int .i64 (k : Int)), (6, .pointer (some (eaddr Aq (k * tyField.sz)))), (7, tyField.val (gs.getD k (([], []) : List UInt8 × List UInt8))), (8, .bool (!(decide ((fs.getD k (([], []) : List UInt8 × List UInt8)) = (gs.getD k (([], []) : List UInt8 × List UInt8))))))]) tf_mixed (by kernel_rfl) (by kernel_rfl) (by kernel_rfl) ?_
      refine ⟨⟨.inr ⟨_, rfl, rfl, .inl ⟨rfl, Do.move rfl⟩⟩, .inr ⟨_, rfl, rfl, .inl ⟨rfl, Do.move rfl⟩⟩, .inr ⟨_, rfl, rfl, .inl ⟨rfl, Do.indexL k h Tryz.underlying45 tf_sz78 rfl rfl rfl (by omega)⟩⟩, .inr ⟨_, rfl, rfl, .inl ⟨rfl, Do.loadE (n := 0) h (getD_some (([], []) : List UInt8 × List UInt8) (by omega)) rfl tf_agg78 rfl⟩⟩, .inr ⟨_, rfl, rfl, .inl ⟨rfl, Do.move rfl⟩⟩, .inr ⟨_, rfl, rfl, .inl ⟨rfl, Do.move rfl⟩⟩, .inr ⟨_, rfl, rfl, .inl ⟨rfl, Do.indexL k hq Tryz.underlying45 tf_sz78 rfl rfl rfl (by omega)⟩⟩, .inr ⟨_, rfl, rfl, .inl ⟨rfl, Do.loadE (n := 0) hq (getD_some (([], []) : List UInt8 × List UInt8) (by omega)) rfl tf_agg78 rfl⟩⟩, .inr ⟨_, rfl, rfl, .inl ⟨rfl, Do.bin (v := .bool (!decide ((fs.getD k (([], []) : List UInt8 × List UInt8)) = (gs.getD k (([], []) : List UInt8 × List UInt8))))) rfl rfl (fun w => neqField_run (fs.getD k (([], []) : List UInt8 × List UInt8)) (gs.getD k (([], []) : List UInt8 × List UInt8)) _ _ w)⟩⟩, trivial⟩, by kernel_rfl, ?_⟩
      refine At.mono (E' := [(0, .slice A fs.length C), (1, .slice Aq gs.length Cq), (5, .int .i64 (k : Int)), (25, .bool (!(decide ((fs.getD k (([], []) : List UInt8 × List UInt8)) = (gs.getD k (([], []) : List UInt8 × List UInt8))))))]) ⟨rfl, rfl, rfl, rfl, trivial⟩ ?_
      refine At.cond rfl ?_ ?_
      · intro hc3
        have hc3 : ¬ ((fs.getD k (([], []) : List UInt8 × List UInt8)) = (gs.getD k (([], []) : List UInt8 × List UInt8))) := of_decide_eq_false (bnot_true hc3)
        refine At.seq ?_
        refine At.region ?_
        refine AtL.assign (.inl rfl) rfl rfl ?_
        refine AtL.done ?_
        exact At.ret Tryz.func85 rfl rfl (⟨congrArg Value.bool (decide_eq_false (fun h => by rw [h] at hc3; exact hc3 rfl)).symm, rfl⟩)
      · intro hc3
        have hc3 : (fs.getD k (([], []) : List UInt8 × List UInt8)) = (gs.getD k (([], []) : List UInt8 × List UInt8)) := of_decide_eq_true (bnot_false hc3)
        refine At.skip ?_
        refine At.inBlock ?_
        refine At.region ?_
        refine AtL.move (.inl rfl) rfl rfl ?_
        refine AtL.add (z := (k : Int) + 1) (.inl rfl) rfl rfl rfl (w64 (by omega) (by omega)) ?_
        refine AtL.assign (.inl rfl) rfl rfl ?_
        refine AtL.done ?_
        refine ihL1 (k + 1) (⟨by omega, take_eqF (by omega) (by omega) ht (by simpa using hc3)⟩) (by omega) _ ?_
        exact ⟨rfl, rfl, (by first | rfl | exact slLen (by simp []) | exact intEq (by omega) | exact intEq (by simp []) | exact slLen (by simp []; omega)), trivial⟩
    · intro hc2
      have hc2 : ¬ ((k : Int) < (fs.length : Int)) := of_decide_eq_false hc2
      refine At.exit rfl ?_
      refine At.seq ?_
      refine At.region ?_
      refine AtL.assign (.inl rfl) rfl rfl ?_
      refine AtL.done ?_
      exact At.ret Tryz.func85 rfl rfl (⟨congrArg Value.bool (decide_eq_true (by rw [List.take_of_length_le (by omega), List.take_of_length_le (by omega)] at ht; exact ht)).symm, rfl⟩)

theorem headV_eq {a b c d : List UInt8} {n k : Int} {fs gs : List Fld} : ((⟨a, b, n, fs⟩ : HeadV) = ⟨c, d, k, gs⟩) ↔ (((a = c ∧ b = d) ∧ n = k) ∧ fs = gs) := by
  constructor
  · intro h; cases h; exact ⟨⟨⟨rfl, rfl⟩, rfl⟩, rfl⟩
  · rintro ⟨⟨⟨rfl, rfl⟩, rfl⟩, rfl⟩; rfl

end Go.Proofs.YtlkdmbpbjhjkfaaGreatDoor
