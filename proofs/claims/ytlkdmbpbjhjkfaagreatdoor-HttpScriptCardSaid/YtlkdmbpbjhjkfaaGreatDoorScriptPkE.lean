/- The parts of the proof that this law needs, in the order of their texts: the logic of walks, the plain laws, the walks. -/
import Derived.Test.YtlkdmbpbjhjkfaaGreatDoorScriptPkD
namespace Go.Proofs.YtlkdmbpbjhjkfaaGreatDoor
set_option linter.unusedVariables false
set_option linter.unusedSimpArgs false
set_option maxRecDepth 100000
theorem spF_le2 (c : UInt8) (l : List UInt8) : ∀ u ∈ spF c l, u.length ≤ l.length := by
  induction l with
  | nil => intro u hu; simp [spF] at hu; subst hu; simp
  | cons a l ih =>
    intro u hu
    rw [spF] at hu
    split at hu
    · rcases List.mem_cons.1 hu with rfl | hu
      · simp
      · have := ih u hu; simp; omega
    · cases h : spF c l with
      | nil => exact absurd h (spF_ne c l)
      | cons w ws =>
        rw [h] at hu
        rcases List.mem_cons.1 hu with rfl | hu
        · have := ih w (by rw [h]; simp); simp; omega
        · have := ih u (by rw [h]; simp [hu]); simp; omega
theorem allF_at {fs : List Fld} {nm : List UInt8} {k : Nat} (h : k < fs.length) : allF (fs.drop k) nm = if lowerF (fs.getD k (([], []) : List UInt8 × List UInt8)).1 = lowerF nm then (fs.getD k (([], []) : List UInt8 × List UInt8)).2 :: allF (fs.drop (k + 1)) nm else allF (fs.drop (k + 1)) nm := by
  rw [List.drop_eq_getElem_cons h, show fs.getD k (([], []) : List UInt8 × List UInt8) = fs[k] by simp [List.getD, h], allF, List.filter_cons]
  by_cases hc : lowerF fs[k].1 = lowerF nm
  · simp [hc, allF]
  · simp [hc, allF]
theorem rkeep_in {kp : Bool} {fs : List Fld} {k : Nat} {r : Bool} (h : goesF kp ((allF (fs.drop k) [99, 111, 110, 110, 101, 99, 116, 105, 111, 110]).flatMap wdF) = r) (hk : k < fs.length) (hc : lowerF (fs.getD k (([], []) : List UInt8 × List UInt8)).1 = lowerF [99, 111, 110, 110, 101, 99, 116, 105, 111, 110]) :
    goesF kp ((((spF 44 (fs.getD k (([], []) : List UInt8 × List UInt8)).2).drop 0).map fun x => lowerF (trimF x)) ++ (allF (fs.drop (k + 1)) [99, 111, 110, 110, 101, 99, 116, 105, 111, 110]).flatMap wdF) = r := by
  rw [allF_at hk, if_pos hc, List.flatMap_cons] at h; exact h
theorem rkeep_out {kp : Bool} {fs : List Fld} {k : Nat} {r : Bool} (h : goesF kp ((allF (fs.drop k) [99, 111, 110, 110, 101, 99, 116, 105, 111, 110]).flatMap wdF) = r) (hk : k < fs.length) (hc : ¬ lowerF (fs.getD k (([], []) : List UInt8 × List UInt8)).1 = lowerF [99, 111, 110, 110, 101, 99, 116, 105, 111, 110]) : goesF kp ((allF (fs.drop (k + 1)) [99, 111, 110, 110, 101, 99, 116, 105, 111, 110]).flatMap wdF) = r := by
  rw [allF_at hk, if_neg hc] at h; exact h
theorem rkeep_close {kq : Bool} {ws rest : List (List UInt8)} {j : Nat} {r : Bool} (h : goesF kq (((ws.drop j).map fun x => lowerF (trimF x)) ++ rest) = r) (hj : j < ws.length) (hc : lowerF (trimF (ws.getD j [])) = lowerF [99, 108, 111, 115, 101]) : r = false := by
  rw [List.drop_eq_getElem_cons hj, show ws[j] = ws.getD j [] by simp [List.getD, hj], List.map_cons, List.cons_append, goesF, if_pos (by rw [hc]; rfl)] at h
  exact h.symm
theorem rkeep_next {kq : Bool} {ws rest : List (List UInt8)} {j : Nat} {r : Bool} (h : goesF kq (((ws.drop j).map fun x => lowerF (trimF x)) ++ rest) = r) (hj : j < ws.length) (hc : ¬ lowerF (trimF (ws.getD j [])) = lowerF [99, 108, 111, 115, 101]) :
    (lowerF (trimF (ws.getD j [])) = lowerF [107, 101, 101, 112, 45, 97, 108, 105, 118, 101] → goesF true (((ws.drop (j + 1)).map fun x => lowerF (trimF x)) ++ rest) = r) ∧ (¬ lowerF (trimF (ws.getD j [])) = lowerF [107, 101, 101, 112, 45, 97, 108, 105, 118, 101] → goesF kq (((ws.drop (j + 1)).map fun x => lowerF (trimF x)) ++ rest) = r) := by
  rw [List.drop_eq_getElem_cons hj, show ws[j] = ws.getD j [] by simp [List.getD, hj], List.map_cons, List.cons_append, goesF, if_neg (by exact hc)] at h
  refine ⟨fun ha => ?_, fun ha => ?_⟩
  · rw [show decide (lowerF (trimF (ws.getD j [])) = ALIVE) = true from decide_eq_true ha, Bool.or_true] at h; exact h
  · rw [show decide (lowerF (trimF (ws.getD j [])) = ALIVE) = false from decide_eq_false ha, Bool.or_false] at h; exact h
theorem rkeep_done {kq : Bool} {ws rest : List (List UInt8)} {j : Nat} {r : Bool} (h : goesF kq (((ws.drop j).map fun x => lowerF (trimF x)) ++ rest) = r) (hj : ws.length ≤ j) : goesF kq rest = r := by
  rw [List.drop_eq_nil_of_le hj] at h; exact h
theorem rkeep_end {kp : Bool} {fs : List Fld} {k : Nat} {r : Bool} (h : goesF kp ((allF (fs.drop k) [99, 111, 110, 110, 101, 99, 116, 105, 111, 110]).flatMap wdF) = r) (hk : fs.length ≤ k) : kp = r := by
  rw [List.drop_eq_nil_of_le hk] at h; exact h
set_option maxHeartbeats 1000000 in
theorem rkeep_ok {w0 : World} {base : Nat} {H : List Seg} {m t : List UInt8} {minor : Int} {A : Option Addr} {C : Nat} {fs : List (List UInt8 × List UInt8)} (h : Rd tyField w0 base H A C fs) (hfl : fs.length ≤ 1000) (hb : ∀ f ∈ fs, f.1.length ≤ 140737488355000 ∧ f.2.length ≤ 140737488355000) (hb4 : ∀ f ∈ fs, f.2.length < 4294967281) :
    SCalls Tryz.prog 84 [.agg #[str m, str t, .int .i64 minor, .slice A fs.length C]] w0 base (H) (fun v H' => v = .bool (keepF fs minor) ∧ H' = H) := by
  have hle0 := h.le
  have hcap0 := h.cap
  refine SCalls.of_walk (n := 51) Tryz.func84 rfl rfl rfl fun cs => ?_
  refine At.seq ?_
  refine At.region ?_
  refine AtL.box (cs := #[str m, str t, .int .i64 minor, .slice A fs.length C]) rfl (.inl rfl) rfl rfl ?_
  intro b1
  refine AtL.assign (.inl rfl) rfl rfl ?_
  refine AtL.done ?_
  refine At.seq ?_
  refine At.region ?_
  refine AtL.fieldAddrB tf_fo47_2 (.inl rfl) rfl rfl rfl ?_
  refine AtL.load tf_flat3 (.inl rfl) rfl rfl (Cell.own 0 0 rfl rfl rfl) ?_
  refine AtL.eqi (.inl rfl) rfl rfl rfl ?_
  refine AtL.assign (.inl rfl) rfl rfl ?_
  refine AtL.done ?_
  refine At.seq ?_
  refine At.seq ?_
  refine At.region ?_
  refine AtL.assign (.inl rfl) rfl rfl ?_
  refine AtL.done ?_
  refine At.block ?_
  refine At.nil ?_
  refine At.pick (H' := [(b1, .cells #[str m, str t, .int .i64 minor, .slice A fs.length C] 47 (0, 0))] :: [] :: H) [1, 0] 2 rfl rfl ?_
  refine At.loop3 (fun (k : Nat) (kp : Bool) (sg : Seg) => [(1, .pointer (some ⟨b1, 0, none⟩)), (3, .bool kp), (4, .int .i64 (k : Int))]) (fun (k : Nat) (kp : Bool) (sg : Seg) => [(b1, .cells #[str m, str t, .int .i64 minor, .slice A fs.length C] 47 (0, 0))] :: sg :: H) (fun (k : Nat) (kp : Bool) (sg : Seg) => k ≤ fs.length ∧ goesF kp ((allF (fs.drop k) [99, 111, 110, 110, 101, 99, 116, 105, 111, 110]).flatMap wdF) = keepF fs minor) (fun (k : Nat) (kp : Bool) (sg : Seg) => fs.length - k) 0 (decide ((minor : Int) = 1)) [] (⟨Nat.zero_le _, rfl⟩) ⟨rfl, rfl, rfl, trivial⟩ rfl ?_
  rintro k kp sg ⟨hk, hg⟩ ihL1
  refine At.seq ?_
  refine At.seq ?_
  refine At.region ?_
  refine AtL.move (.inl rfl) rfl rfl ?_
  refine AtL.fieldAddrB tf_fo47_3 (.inl rfl) rfl rfl rfl ?_
  refine AtL.load tf_flat45 (.inl rfl) rfl rfl (Cell.own 0 0 rfl rfl rfl) ?_
  refine AtL.lenL Tryz.underlying45 (.inl rfl) rfl rfl ?_
  refine AtL.lss (.inl rfl) rfl rfl rfl ?_
  refine AtL.done ?_
  refine At.cond rfl ?_ ?_
  · intro hc1
    have hc1 : (k : Int) < (fs.length : Int) := of_decide_eq_true hc1
    have hbk := hb _ (getD_mem (l := fs) (i := k) (d := (([], []) : List UInt8 × List UInt8)) (by omega))
    refine At.skip ?_
    refine At.seq ?_
    refine At.block ?_
    refine At.seq ?_
    refine At.seq ?_
    refine At.region ?_
    refine AtL.fieldAddrB tf_fo47_3 (.inl rfl) rfl rfl rfl ?_
    refine AtL.load tf_flat45 (.inl rfl) rfl rfl (Cell.own 0 0 rfl rfl rfl) ?_
    refine AtL.move (.inl rfl) rfl rfl ?_
    refine AtL.indexL k (Rd.skip 2 h) Tryz.underlying45 tf_sz78 (.inl rfl) rfl rfl rfl rfl (by omega) ?_
    refine AtL.fieldAddr tf_fo78_0 (.inl rfl) rfl rfl ?_
    refine AtL.load (v := str ((fs.getD k (([], []) : List UInt8 × List UInt8)).1)) tf_flat9 (.inl rfl) rfl rfl (Rd.cell_at (Rd.skip 2 h) (j := 0) (getD_some (([], []) : List UInt8 × List UInt8) (by omega)) rfl) ?_
    refine AtL.call tf_body126 (.inl rfl) rfl rfl (rsame_ok (a := (fs.getD k (([], []) : List UInt8 × List UInt8)).1) (b := [99, 111, 110, 110, 101, 99, 116, 105, 111, 110]) (by omega) (by decide)) ?_
    rintro _ _ ⟨rfl, rfl⟩
    refine AtL.not (.inl rfl) rfl rfl ?_
    refine AtL.done ?_
    refine At.cond rfl ?_ ?_
    · intro hc2
      have hc2 : ¬ (lowerF ((fs.getD k (([], []) : List UInt8 × List UInt8)).1) = lowerF [99, 111, 110, 110, 101, 99, 116, 105, 111, 110]) := of_decide_eq_false (bnot_true hc2)
      refine At.exit rfl ?_
      refine At.region ?_
      refine AtL.move (.inl rfl) rfl rfl ?_
      refine AtL.add (z := (k : Int) + 1) (.inl rfl) rfl rfl rfl (w64 (by omega) (by omega)) ?_
      refine AtL.assign (.inl rfl) rfl rfl ?_
      refine AtL.done ?_
      refine ihL1 (k + 1) kp sg (⟨by omega, rkeep_out hg (by omega) hc2⟩) (by omega) _ ?_
      exact ⟨rfl, (by first | rfl | exact slLen (by simp []) | exact intEq (by omega) | exact intEq (by simp []) | exact slLen (by simp []; omega)), (by first | rfl | exact slLen (by simp []) | exact intEq (by omega) | exact intEq (by simp []) | exact slLen (by simp []; omega)), trivial⟩
    · intro hc2
      have hc2 : lowerF ((fs.getD k (([], []) : List UInt8 × List UInt8)).1) = lowerF [99, 111, 110, 110, 101, 99, 116, 105, 111, 110] := of_decide_eq_true (bnot_false hc2)
      have h4k := hb4 _ (getD_mem (l := fs) (i := k) (d := (([], []) : List UInt8 × List UInt8)) (by omega))
      refine At.skip ?_
      refine At.seq ?_
      refine At.region ?_
      refine AtL.fieldAddrB tf_fo47_3 (.inl rfl) rfl rfl rfl ?_
      refine AtL.load tf_flat45 (.inl rfl) rfl rfl (Cell.own 0 0 rfl rfl rfl) ?_
      refine AtL.move (.inl rfl) rfl rfl ?_
      refine AtL.indexL k (Rd.skip 2 h) Tryz.underlying45 tf_sz78 (.inl rfl) rfl rfl rfl rfl (by omega) ?_
      refine AtL.fieldAddr tf_fo78_1 (.inl rfl) rfl rfl ?_
      refine AtL.load (v := str ((fs.getD k (([], []) : List UInt8 × List UInt8)).2)) tf_flat9 (.inl rfl) rfl rfl (Rd.cell_at (Rd.skip 2 h) (j := 1) (getD_some (([], []) : List UInt8 × List UInt8) (by omega)) rfl) ?_
      refine AtL.call tf_body121 (.inl rfl) rfl rfl (rsplit_44 (s := (fs.getD k (([], []) : List UInt8 × List UInt8)).2) (by omega)) ?_
      rintro _ _ ⟨⟨A2, C3, l4, s5, o6⟩, hx7, rfl, rfl⟩
      obtain rfl : spF 44 ((fs.getD k (([], []) : List UInt8 × List UInt8)).2) = l4 := hx7.symm
      refine AtL.assign (.inl rfl) rfl rfl ?_
      refine AtL.done ?_
      refine At.seq ?_
      refine At.region ?_
      refine AtL.assign (.inl rfl) rfl rfl ?_
      refine AtL.done ?_
      refine At.block ?_
      have hwl := spF_le2 44 (fs.getD k (([], []) : List UInt8 × List UInt8)).2
      have hcapw := Own.cap_le o6
      have hlew := Own.le_cap o6
      refine At.loop2 (fun (j : Nat) (kq : Bool) => [(1, .pointer (some ⟨b1, 0, none⟩)), (3, .bool kq), (4, .int .i64 (k : Int)), (5, .slice A2 (spF 44 ((fs.getD k (([], []) : List UInt8 × List UInt8)).2)).length C3), (6, .int .i64 (j : Int))]) (fun (j : Nat) (kq : Bool) => s5 :: [(b1, .cells #[str m, str t, .int .i64 minor, .slice A fs.length C] 47 (0, 0))] :: sg :: H) (fun (j : Nat) (kq : Bool) => j ≤ (spF 44 ((fs.getD k (([], []) : List UInt8 × List UInt8)).2)).length ∧ goesF kq ((((spF 44 ((fs.getD k (([], []) : List UInt8 × List UInt8)).2)).drop j).map fun x => lowerF (trimF x)) ++ ((allF (fs.drop (k + 1)) [99, 111, 110, 110, 101, 99, 116, 105, 111, 110]).flatMap wdF)) = keepF fs minor) (fun (j : Nat) (kq : Bool) => (spF 44 ((fs.getD k (([], []) : List UInt8 × List UInt8)).2)).length - j) 0 kp (⟨Nat.zero_le _, rkeep_in hg (by omega) hc2⟩) ⟨rfl, rfl, rfl, rfl, rfl, trivial⟩ rfl ?_
      rintro j kq ⟨hj, hq⟩ ihL2
      refine At.seq ?_
      refine At.seq ?_
      refine At.region ?_
      refine AtL.move (.inl rfl) rfl rfl ?_
      refine AtL.move (.inl rfl) rfl rfl ?_
      refine AtL.lenL Tryz.underlying109 (.inl rfl) rfl rfl ?_
      refine AtL.lss (.inl rfl) rfl rfl rfl ?_
      refine AtL.done ?_
      refine At.cond rfl ?_ ?_
      · intro hc3
        have hc3 : (j : Int) < ((spF 44 ((fs.getD k (([], []) : List UInt8 × List UInt8)).2)).length : Int) := of_decide_eq_true hc3
        have hwj := hwl _ (getD_mem (l := spF 44 ((fs.getD k (([], []) : List UInt8 × List UInt8)).2)) (i := j) (d := ([] : List UInt8)) (by omega))
        have htj := trimF_le ((spF 44 ((fs.getD k (([], []) : List UInt8 × List UInt8)).2)).getD j [])
        refine At.skip ?_
        refine At.seq ?_
        refine At.block ?_
        refine At.seq ?_
        refine At.seq ?_
        refine At.region ?_
        refine AtL.move (.inl rfl) rfl rfl ?_
        refine AtL.move (.inl rfl) rfl rfl ?_
        refine AtL.indexL j (o6.rd (i := 0) rfl) Tryz.underlying109 tf_sz9 (.inl rfl) rfl rfl rfl rfl (by omega) ?_
        refine AtL.load (v := str ((spF 44 ((fs.getD k (([], []) : List UInt8 × List UInt8)).2)).getD j [])) tf_flat9 (.inl rfl) rfl rfl (Rd.cell0 (o6.rd (i := 0) rfl) (getD_some [] (by omega)) rfl) ?_
        refine AtL.call tf_body124 (.inl rfl) rfl rfl (rtrim_ok (l := ((spF 44 ((fs.getD k (([], []) : List UInt8 × List UInt8)).2)).getD j [])) (by first | omega | (simp only [List.length_append, List.length_cons, List.length_nil]; omega) | (simp; done) | (simp; omega))) ?_
        rintro _ _ ⟨rfl, rfl⟩
        refine AtL.call tf_body126 (.inl rfl) rfl rfl (rsame_ok (a := trimF ((spF 44 ((fs.getD k (([], []) : List UInt8 × List UInt8)).2)).getD j [])) (b := [99, 108, 111, 115, 101]) (by omega) (by decide)) ?_
        rintro _ _ ⟨rfl, rfl⟩
        refine AtL.done ?_
        refine At.cond rfl ?_ ?_
        · intro hc4
          have hc4 : lowerF (trimF ((spF 44 ((fs.getD k (([], []) : List UInt8 × List UInt8)).2)).getD j [])) = lowerF [99, 108, 111, 115, 101] := of_decide_eq_true hc4
          refine At.seq ?_
          refine At.region ?_
          refine AtL.assign (.inl rfl) rfl rfl ?_
          refine AtL.done ?_
          refine At.pick (H' := H) [] 3 rfl rfl ?_
          exact At.ret Tryz.func84 rfl rfl (⟨congrArg Value.bool (rkeep_close hq (by omega) hc4).symm, rfl⟩)
        · intro hc4
          have hc4 : ¬ (lowerF (trimF ((spF 44 ((fs.getD k (([], []) : List UInt8 × List UInt8)).2)).getD j [])) = lowerF [99, 108, 111, 115, 101]) := of_decide_eq_false hc4
          refine At.skip ?_
          refine At.seq ?_
          refine At.region ?_
          refine AtL.move (.inl rfl) rfl rfl ?_
          refine AtL.move (.inl rfl) rfl rfl ?_
          refine AtL.indexL j (o6.rd (i := 0) rfl) Tryz.underlying109 tf_sz9 (.inl rfl) rfl rfl rfl rfl (by omega) ?_
          refine AtL.load (v := str ((spF 44 ((fs.getD k (([], []) : List UInt8 × List UInt8)).2)).getD j [])) tf_flat9 (.inl rfl) rfl rfl (Rd.cell0 (o6.rd (i := 0) rfl) (getD_some [] (by omega)) rfl) ?_
          refine AtL.call tf_body124 (.inl rfl) rfl rfl (rtrim_ok (l := ((spF 44 ((fs.getD k (([], []) : List UInt8 × List UInt8)).2)).getD j [])) (by first | omega | (simp only [List.length_append, List.length_cons, List.length_nil]; omega) | (simp; done) | (simp; omega))) ?_
          rintro _ _ ⟨rfl, rfl⟩
          refine AtL.call tf_body126 (.inl rfl) rfl rfl (rsame_ok (a := trimF ((spF 44 ((fs.getD k (([], []) : List UInt8 × List UInt8)).2)).getD j [])) (b := [107, 101, 101, 112, 45, 97, 108, 105, 118, 101]) (by omega) (by decide)) ?_
          rintro _ _ ⟨rfl, rfl⟩
          refine AtL.done ?_
          refine At.cond rfl ?_ ?_
          · intro hc5
            have hc5 : lowerF (trimF ((spF 44 ((fs.getD k (([], []) : List UInt8 × List UInt8)).2)).getD j [])) = lowerF [107, 101, 101, 112, 45, 97, 108, 105, 118, 101] := of_decide_eq_true hc5
            refine At.region ?_
            refine AtL.assign (.inl rfl) rfl rfl ?_
            refine AtL.done ?_
            refine At.inBlock ?_
            refine At.region ?_
            refine AtL.move (.inl rfl) rfl rfl ?_
            refine AtL.add (z := (j : Int) + 1) (.inl rfl) rfl rfl rfl (w64 (by omega) (by omega)) ?_
            refine AtL.assign (.inl rfl) rfl rfl ?_
            refine AtL.done ?_
            refine ihL2 (j + 1) true (⟨by omega, (rkeep_next hq (by omega) hc4).1 hc5⟩) (by omega) _ ?_
            exact ⟨rfl, (by first | rfl | exact slLen (by simp []) | exact intEq (by omega) | exact intEq (by simp []) | exact slLen (by simp []; omega)), rfl, rfl, (by first | rfl | exact slLen (by simp []) | exact intEq (by omega) | exact intEq (by simp []) | exact slLen (by simp []; omega)), trivial⟩
          · intro hc5
            have hc5 : ¬ (lowerF (trimF ((spF 44 ((fs.getD k (([], []) : List UInt8 × List UInt8)).2)).getD j [])) = lowerF [107, 101, 101, 112, 45, 97, 108, 105, 118, 101]) := of_decide_eq_false hc5
            refine At.skip ?_
            refine At.inBlock ?_
            refine At.region ?_
            refine AtL.move (.inl rfl) rfl rfl ?_
            refine AtL.add (z := (j : Int) + 1) (.inl rfl) rfl rfl rfl (w64 (by omega) (by omega)) ?_
            refine AtL.assign (.inl rfl) rfl rfl ?_
            refine AtL.done ?_
            refine ihL2 (j + 1) kq (⟨by omega, (rkeep_next hq (by omega) hc4).2 hc5⟩) (by omega) _ ?_
            exact ⟨rfl, (by first | rfl | exact slLen (by simp []) | exact intEq (by omega) | exact intEq (by simp []) | exact slLen (by simp []; omega)), rfl, rfl, (by first | rfl | exact slLen (by simp []) | exact intEq (by omega) | exact intEq (by simp []) | exact slLen (by simp []; omega)), trivial⟩
      · intro hc3
        have hc3 : ¬ ((j : Int) < ((spF 44 ((fs.getD k (([], []) : List UInt8 × List UInt8)).2)).length : Int)) := of_decide_eq_false hc3
        refine At.exit rfl ?_
        refine At.inBlock ?_
        refine At.region ?_
        refine AtL.move (.inl rfl) rfl rfl ?_
        refine AtL.add (z := (k : Int) + 1) (.inl rfl) rfl rfl rfl (w64 (by omega) (by omega)) ?_
        refine AtL.assign (.inl rfl) rfl rfl ?_
        refine AtL.done ?_
        refine At.pick (H' := [(b1, .cells #[str m, str t, .int .i64 minor, .slice A fs.length C] 47 (0, 0))] :: s5 :: H) [1, 0] 3 rfl rfl ?_
        refine ihL1 (k + 1) kq s5 (⟨by omega, rkeep_done hq (by omega)⟩) (by omega) _ ?_
        exact ⟨rfl, (by first | rfl | exact slLen (by simp []) | exact intEq (by omega) | exact intEq (by simp []) | exact slLen (by simp []; omega)), (by first | rfl | exact slLen (by simp []) | exact intEq (by omega) | exact intEq (by simp []) | exact slLen (by simp []; omega)), trivial⟩
  · intro hc1
    have hc1 : ¬ ((k : Int) < (fs.length : Int)) := of_decide_eq_false hc1
    refine At.exit rfl ?_
    refine At.seq ?_
    refine At.region ?_
    refine AtL.move (.inl rfl) rfl rfl ?_
    refine AtL.assign (.inl rfl) rfl rfl ?_
    refine AtL.done ?_
    refine At.pick (H' := H) [] 2 rfl rfl ?_
    exact At.ret Tryz.func84 rfl rfl (⟨congrArg Value.bool (rkeep_end hg (by omega)), rfl⟩)
end Go.Proofs.YtlkdmbpbjhjkfaaGreatDoor
namespace Go.Proofs.YtlkdmbpbjhjkfaaGreatDoor
set_option linter.unusedVariables false
set_option linter.unusedSimpArgs false
set_option maxRecDepth 100000
open Go
structure ItV where
  st : Int
  hd : HeadV
  body : List UInt8
  keep : Bool
deriving DecidableEq
def ItV.bad (s : Int) : ItV := ⟨s, ⟨[], [], 0, []⟩, [], false⟩
inductive HR where
  | wait
  | ends (s : Int)
  | ready (hd : HeadV) (long body : Nat) (keep : Bool)
def CR2 : List UInt8 := [13, 10, 13, 10]
def EXPECT : List UInt8 := [101, 120, 112, 101, 99, 116]
def POSTH : List UInt8 := [80, 79, 83, 84]
def askR (b : List UInt8) (long : Nat) : HR :=
  if ¬ (parseF (b.take long)).2 = 200 then .ends (parseF (b.take long)).2
  else if 0 < (fieldF (parseF (b.take long)).1.fs EXPECT).2 then .ends 417
  else if ¬ (lengthF (parseF (b.take long)).1.fs).2 = 200 then .ends (lengthF (parseF (b.take long)).1.fs).2
  else if (lengthF (parseF (b.take long)).1.fs).1 < 0 ∧ (parseF (b.take long)).1.m = POSTH then .ends 411
  else .ready (parseF (b.take long)).1 long (lengthF (parseF (b.take long)).1.fs).1.toNat (keepF (parseF (b.take long)).1.fs (parseF (b.take long)).1.minor)
def headF14 (b : List UInt8) : HR :=
  if Go.Lib.index b CR2 < 0 ∨ 4096 < Go.Lib.index b CR2 + 4 then (if 4096 < b.length then .ends 431 else .wait)
  else askR b ((Go.Lib.index b CR2).toNat + 4)
theorem askR_long {b : List UInt8} {n : Nat} {hd : HeadV} {long body : Nat} {k : Bool} (h : askR b n = .ready hd long body k) : long = n := by
  unfold askR at h
  repeat' split at h
  all_goals first | cases h | skip
  all_goals rfl
theorem head_long {b : List UInt8} {hd : HeadV} {long body : Nat} {k : Bool} (h : headF14 b = .ready hd long body k) : 4 ≤ long ∧ long ≤ 4096 ∧ long ≤ b.length ∧ Go.Lib.index b CR2 = (long : Int) - 4 := by
  unfold headF14 at h
  split at h
  · split at h <;> cases h
  · rename_i hc
    have := askR_long h
    have hr := Go.Lib.index_room b CR2 (by omega)
    have e : CR2.length = 4 := rfl
    omega
def runF (b : List UInt8) : List ItV × List UInt8 × Bool :=
  match h : headF14 b with
  | .wait => ([], b, false)
  | .ends s => ([ItV.bad s], [], true)
  | .ready hd long body k =>
    if hlt : b.length < long + body then ([], b, false)
    else if k then (⟨200, hd, (b.drop long).take body, true⟩ :: (runF (b.drop (long + body))).1, (runF (b.drop (long + body))).2)
    else ([⟨200, hd, (b.drop long).take body, false⟩], [], true)
termination_by b.length
decreasing_by all_goals (have := head_long h; rw [List.length_drop]; omega)
theorem run_wait {b : List UInt8} (h : headF14 b = .wait) : runF b = ([], b, false) := by rw [runF]; split <;> simp_all
theorem run_ends {b : List UInt8} {s : Int} (h : headF14 b = .ends s) : runF b = ([ItV.bad s], [], true) := by rw [runF]; split <;> simp_all
theorem run_short {b : List UInt8} {hd : HeadV} {long body : Nat} {k : Bool} (h : headF14 b = .ready hd long body k) (hl : b.length < long + body) : runF b = ([], b, false) := by rw [runF]; split <;> simp_all
theorem run_last {b : List UInt8} {hd : HeadV} {long body : Nat} (h : headF14 b = .ready hd long body false) (hl : ¬ b.length < long + body) : runF b = ([⟨200, hd, (b.drop long).take body, false⟩], [], true) := by
  rw [runF]; split <;> simp_all
theorem run_more {b : List UInt8} {hd : HeadV} {long body : Nat} (h : headF14 b = .ready hd long body true) (hl : ¬ b.length < long + body) : runF b = (⟨200, hd, (b.drop long).take body, true⟩ :: (runF (b.drop (long + body))).1, (runF (b.drop (long + body))).2) := by
  rw [runF]; split <;> simp_all
theorem occ_app {b x s : List UInt8} {j : Nat} (hj : j + s.length ≤ b.length) : Go.Lib.occAt (b ++ x) s j = Go.Lib.occAt b s j := by
  rw [Go.Lib.occAt, Go.Lib.occAt, List.drop_append_of_le_length (by omega), Bool.eq_iff_iff, List.isPrefixOf_iff_prefix, List.isPrefixOf_iff_prefix]
  constructor
  · intro h; exact List.prefix_of_prefix_length_le h (List.prefix_append _ _) (by rw [List.length_drop]; omega)
  · intro h; exact h.trans (List.prefix_append _ _)
theorem index_app {b x s : List UInt8} (h : 0 ≤ Go.Lib.index b s) : Go.Lib.index (b ++ x) s = Go.Lib.index b s := by
  rcases Go.Lib.index_spec b s with ⟨h1, _⟩ | ⟨i, h1, h2, h3, h4⟩
  · omega
  · have hr := Go.Lib.index_room b s h
    rw [h1]
    refine Go.Lib.index_first (by rw [List.length_append]; omega) (by rw [occ_app (by omega)]; exact h3) fun j hj => ?_
    rw [occ_app (by omega)]; exact h4 j hj
theorem askR_app {b x : List UInt8} {n : Nat} (h : n ≤ b.length) : askR (b ++ x) n = askR b n := by
  unfold askR
  rw [List.take_append_of_le_length h]
theorem head_app {b x : List UInt8} (h : headF14 b ≠ .wait) : headF14 (b ++ x) = headF14 b := by
  have e4 : CR2.length = 4 := rfl
  by_cases hc : Go.Lib.index b CR2 < 0 ∨ 4096 < Go.Lib.index b CR2 + 4
  · have hl : 4096 < b.length := by
      by_cases hl : 4096 < b.length
      · exact hl
      · exact absurd (by rw [headF14, if_pos hc, if_neg hl]) h
    have hc2 : Go.Lib.index (b ++ x) CR2 < 0 ∨ 4096 < Go.Lib.index (b ++ x) CR2 + 4 := by
      rcases Go.Lib.index_spec (b ++ x) CR2 with ⟨h1, _⟩ | ⟨i, h1, h2, h3, h4⟩
      · omega
      · by_cases hi : 4096 < i + 4
        · omega
        · rw [occ_app (by omega)] at h3
          rcases Go.Lib.index_spec b CR2 with ⟨_, k2⟩ | ⟨j, k1, k2, k3, k4⟩
          · rw [k2 i (by omega)] at h3; cases h3
          · have : j ≤ i := by
              rcases Nat.lt_or_ge i j with q | q
              · rw [k4 i q] at h3; cases h3
              · exact q
            omega
    rw [headF14, headF14, if_pos hc, if_pos hc2, if_pos hl, if_pos (by rw [List.length_append]; omega)]
  · have hi := index_app (b := b) (x := x) (s := CR2) (by omega)
    have hr := Go.Lib.index_room b CR2 (by omega)
    rw [headF14, headF14, hi, if_neg hc, if_neg hc, askR_app (by omega)]
theorem run_app : ∀ (n : Nat) (b x : List UInt8), b.length ≤ n → runF (b ++ x) = if (runF b).2.2 then runF b else ((runF b).1 ++ (runF ((runF b).2.1 ++ x)).1, (runF ((runF b).2.1 ++ x)).2)
  | n, b, x, hn => by
    cases hh : headF14 b with
    | wait => rw [run_wait hh]; rfl
    | ends s => rw [run_ends hh, run_ends ((head_app (by rw [hh]; simp)).trans hh)]; rfl
    | ready hd long body k =>
      have ha := (head_app (x := x) (by rw [hh]; simp)).trans hh
      have hl := head_long hh
      by_cases hs : b.length < long + body
      · rw [run_short hh hs]; rfl
      · have hs2 : ¬ (b ++ x).length < long + body := by rw [List.length_append]; omega
        have e1 : ((b ++ x).drop long).take body = (b.drop long).take body := by
          rw [List.drop_append_of_le_length (by omega), List.take_append_of_le_length (by rw [List.length_drop]; omega)]
        have e2 : (b ++ x).drop (long + body) = b.drop (long + body) ++ x := List.drop_append_of_le_length (by omega)
        cases k with
        | false => rw [run_last hh hs, run_last ha hs2, e1]; rfl
        | true =>
          match n, hn with
          | 0, hn => exact absurd hn (by omega)
          | n + 1, hn =>
            have ih := run_app n (b.drop (long + body)) x (by rw [List.length_drop]; omega)
            rw [run_more hh hs, run_more ha hs2, e1, e2, ih]
            dsimp only
            split <;> rfl
theorem fieldsB_mem {fs : List Fld} {f : Fld} (h : f ∈ fs) : f.1.length + f.2.length ≤ (fieldsB fs).length := by
  induction fs with
  | nil => cases h
  | cons g fs ih =>
    simp only [fieldsB, fieldB, List.length_append, List.length_cons]
    rcases List.mem_cons.1 h with rfl | h
    · omega
    · have := ih h; omega
theorem parse_small {p : HeadV × Int} {b : List UInt8} (hp : p = parseF b) (h : p.2 = 200) (hb : b.length ≤ 4096) : p.1.fs.length ≤ 1000 ∧ (∀ f ∈ p.1.fs, f.1.length ≤ 140737488355000 ∧ f.2.length ≤ 140737488355000) ∧ (∀ f ∈ p.1.fs, f.2.length < 4294967281) := by
  obtain ⟨h1, h2⟩ := back2 b p.1 (by rw [← hp]; exact Prod.ext rfl h)
  simp only [okF, Bool.and_eq_true, decide_eq_true_eq] at h1
  have h3 : ∀ f ∈ p.1.fs, f.1.length + f.2.length ≤ 4128 := fun f hf => by
    have := fieldsB_mem hf
    simp only [headB, List.length_append, List.length_cons] at h2
    omega
  exact ⟨by omega, fun f hf => by have := h3 f hf; omega, fun f hf => by have := h3 f hf; omega⟩
end Go.Proofs.YtlkdmbpbjhjkfaaGreatDoor
namespace Go.Proofs.YtlkdmbpbjhjkfaaGreatDoor
set_option linter.unusedVariables false
set_option linter.unusedSimpArgs false
set_option maxRecDepth 100000
def tyItem : Ty (Int × List UInt8 × List UInt8 × Int × Vs (List UInt8 × List UInt8) × Vs UInt8 × Bool) := { val := fun x => .agg #[int x.1, str x.2.1, str x.2.2.1, int x.2.2.2.1, .slice x.2.2.2.2.1.A x.2.2.2.2.1.l.length x.2.2.2.2.1.C, .slice x.2.2.2.2.2.1.A x.2.2.2.2.2.1.l.length x.2.2.2.2.2.1.C, .bool x.2.2.2.2.2.2], sz := 7, ok := fun _ => rfl, plain := fun x c hc => by simp [int, str, Value.cells] at hc; rcases hc with rfl | rfl | rfl | rfl | rfl | rfl | rfl <;> rfl }
theorem tf_el40 : ElemOk Tryz.prog 40 49 tyItem ((0, [], [], 0, ⟨none, 0, []⟩, ⟨none, 0, []⟩, false) : Int × List UInt8 × List UInt8 × Int × Vs (List UInt8 × List UInt8) × Vs UInt8 × Bool) 104 := ElemOk.of Tryz.underlying40 (by kernel_rfl) (by kernel_rfl) rfl
structure It where
  st : Int
  m : List UInt8
  t : List UInt8
  minor : Int
  f : Sl tyField 78
  z : Sl tyB 5
  keep : Bool
def It.v (x : It) : (Int × List UInt8 × List UInt8 × Int × Vs (List UInt8 × List UInt8) × Vs UInt8 × Bool) := (x.st, x.m, x.t, x.minor, x.f.v, x.z.v, x.keep)
def It.pl (x : It) : ItV := ⟨x.st, ⟨x.m, x.t, x.minor, x.f.l⟩, x.z.l, x.keep⟩
def itS (l : List It) : Seg := l.flatMap fun x => x.f.s ++ x.z.s
def It.bad (s : Int) : It := ⟨s, [], [], 0, Sl.nil, Sl.nil, false⟩
inductive Rph where
  | over
  | head
  | rest (m t : List UInt8) (minor : Int) (f : Sl tyField 78) (keep : Bool) (long body : Nat)
def Rph.s : Rph → Seg
  | .rest _ _ _ f _ _ _ => f.s
  | _ => []
def headFn (r : Nat) : Value := .func (.func 47) #[.pointer (some ⟨r, 0, none⟩)] #[]
def restFn (r : Nat) : Value := .func (.func 79) #[.pointer (some ⟨r, 0, none⟩)] #[]
def rdC (r : Nat) (ph : Rph) (x : Sl tyB 5) (o : Value) (g : Nat → Value) : Seg :=
  match ph with
  | .over => [(r, .cells #[.bool true, .slice none 0 0, .nilFunc, g 0, g 1, g 2, g 3, g 4, g 5, g 6, g 7, g 8, o] 51 (0, 0))]
  | .head => [(r, .cells #[.bool true, .slice x.A x.l.length x.C, headFn r, g 0, g 1, g 2, g 3, g 4, g 5, g 6, g 7, g 8, o] 51 (0, 0))]
  | .rest m t minor f keep long body => [(r, .cells #[.bool true, .slice x.A x.l.length x.C, restFn r, int 200, str m, str t, int minor, .slice f.A f.l.length f.C, .slice none 0 0, .bool keep, int (long : Int), int (body : Int), o] 51 (0, 0))]
end Go.Proofs.YtlkdmbpbjhjkfaaGreatDoor
namespace Go.Proofs.YtlkdmbpbjhjkfaaGreatDoor
open Go.RowKit (Below)
set_option linter.unusedVariables false
set_option linter.unusedSimpArgs false
def waitsM (os : List Oper) (val : Env) (fs : List Nat) : Bool := os.zipIdx.all fun (o, i) => isKnown val i || (fs.any fun e => Nat.beq i e) || (depsL o).any fun j => !isKnown val j
def AllM : List Nat → (Nat → Prop) → Prop
  | [], _ => True
  | e :: es, p => p e ∧ AllM es p
theorem AllM.get {p : Nat → Prop} : ∀ {fs : List Nat}, AllM fs p → ∀ e ∈ fs, p e
  | _ :: _, h, e, he => by
    rcases List.mem_cons.1 he with rfl | he
    · exact h.1
    · exact AllM.get h.2 e he
def PhM (X : Pt) (os : List Oper) (k : List Item) (E0 : Env) (ds : List Deferred) : Nat → List Nat → Env → Env → List Seg → Prop
  | 0, _, pv, xv, H => PureL X os E0 (pv ++ xv) xv H pv ∧ (os.zipIdx.all fun (_, i) => isKnown (pv ++ xv) i) = true ∧ At X k (finE os 0 (pv ++ xv) E0) ds H
  | n + 1, fs, pv, xv, H => PureL X os E0 (pv ++ xv) xv H pv ∧ fs ≠ [] ∧ (fs.all fun x => !isKnown (pv ++ xv) x) = true ∧ waitsM os (pv ++ xv) fs = true ∧
    AllM fs fun e => ∃ o, os[e]? = some o ∧ dstOk X.n o.dst = true ∧ wantsB os (pre os E0 (pv ++ xv) e) o.guard true ∧ ∃ R, Does X (pre os E0 (pv ++ xv) e) H o.op R ∧
      ∀ v H', R v H' → ∃ pv' fs', (pv'.all fun p => !isKnown (pv ++ xv) p.1 && !Nat.beq p.1 e) = true ∧ PhM X os k E0 ds n fs' (pv' ++ pv) ((e, v) :: xv) H'
section
variable {X : Pt} {k : List Item} {E0 : Env} {ds : List Deferred} {ops : Array Oper}
theorem draw_goM (hok : okTmps ops.toList = true) (hdl : okDeps ops.toList = true) (hrd : (ops.toList.all fun o => (readsOf ops.toList o).all fun t => Nat.blt t X.n) = true) :
    ∀ (fuel t : Nat) (l : Array Bool) (n : Nat) (fs : List Nat) (pv xv : Env) (H : List Seg) (a : Array Value) (w : World), l.size = ops.size → (∀ i o, ops.toList[i]? = some o → Dn l i → ∀ j ∈ depsL o, Dn l j) →
      (∀ i o, ops.toList[i]? = some o → Dn l i → isKnown (pv ++ xv) i = true) → (∀ p ∈ xv, Dn l p.1) →
      (ops.size ≤ fuel + ((List.range ops.size).filter fun i => l.getD i false).length) → PhM X ops.toList k E0 ds n fs pv xv H → AgD X.n ops.toList E0 (pv ++ xv) (Dn l) a → Sep X.w0 X.base w H →
      Ev X.P (lone (X.c.fr a ds (.inRegion ops (Region.linearise.go .any ops fuel t l []) :: k)) X.cs w) X.G := by
  intro fuel
  induction fuel with
  | zero =>
    intro t l n fs pv xv H a w hs hcl hkn hxv hf hp ha S
    have hall : ∀ i o, ops.toList[i]? = some o → Dn l i := by
      intro i o ho
      have hlt : i < ops.size := by have := (List.getElem?_eq_some_iff.1 ho).1; simpa using this
      have hle : ((List.range ops.size).filter fun i => l.getD i false).length ≤ ops.size := by
        have := List.length_filter_le (fun i => l.getD i false) (List.range ops.size)
        simpa using this
      have heq : ((List.range ops.size).filter fun i => l.getD i false).length = (List.range ops.size).length := by rw [List.length_range]; omega
      have := List.length_filter_eq_length_iff.1 heq i (List.mem_range.2 hlt)
      exact this
    cases n with
    | succ n =>
      obtain ⟨_, hne, hun, _, hall2⟩ := hp
      cases fs with
      | nil => exact absurd rfl hne
      | cons e es =>
        obtain ⟨o, ho, _⟩ := hall2.1
        have h1 := hkn e o ho (hall e o ho)
        have h2 := List.all_eq_true.1 hun e (by simp)
        rw [h1] at h2; cases h2
    | zero =>
      obtain ⟨_, hkn2, hat⟩ := hp
      simp only [Region.linearise.go, List.reverse_nil]
      refine .step go_region_end (hat a w (ha.fin hall (fun i o ho => ?_)) S)
      exact hkn i o ho (hall i o ho)
  | succ fuel ih =>
    intro t l n fs pv xv H a w hs hcl hkn hxv hf hp ha S
    simp only [Region.linearise.go]
    split
    · rename_i i hi
      rw [linearise_go_acc]
      simp only [List.reverse_cons, List.reverse_nil, List.nil_append, List.singleton_append]
      have hmem : i ∈ Region.ready .any ops l := List.mem_iff_getElem?.2 ⟨_, hi⟩
      obtain ⟨o, ho, hnl, hdeps⟩ := ready_mem hmem
      have hnd := not_dn hnl
      have hoL : ops.toList[i]? = some o := by rw [Array.getElem?_toList]; exact ho
      have hlt : i < ops.size := (Array.getElem?_eq_some_iff.1 ho).1
      have hAg := ha.pre hok hdl hcl hoL hnd hdeps
      have hprelt : ∀ t v, Env.get (pre ops.toList E0 (pv ++ xv) i) t = some v → t < X.n := by
        have h1 := List.all_eq_true.1 hrd o (List.mem_iff_getElem?.2 ⟨i, hoL⟩)
        have key : ∀ ts : List Nat, (∀ t ∈ ts, t < X.n) → ∀ t v, Env.get (preL ops.toList E0 (pv ++ xv) i ts) t = some v → t < X.n := by
          intro ts
          induction ts with
          | nil => intro _ t v hv; simp [preL, Env.get] at hv
          | cons t0 ts ih =>
            intro hts t v hv
            simp only [preL] at hv
            split at hv
            · simp only [Env.get] at hv
              by_cases e : t0 = t
              · subst e; exact hts t0 (by simp)
              · rw [beq_no e] at hv
                exact ih (fun t ht => hts t (by simp [ht])) t v hv
            · exact ih (fun t ht => hts t (by simp [ht])) t v hv
        intro t v hv
        unfold pre at hv
        rw [hoL] at hv
        exact key _ (fun t ht => blt_lt (List.all_eq_true.1 h1 t ht)) t v hv
      -- what is the same in each case behind the operation
      have after : ∀ (n' : Nat) (fs' : List Nat) (pv' xv' : Env) (H' : List Seg) (v : Value) (w' : World), PhM X ops.toList k E0 ds n' fs' pv' xv' H' → Sep X.w0 X.base w' H' → dstOk X.n o.dst = true → Env.get (pv' ++ xv') i = some v →
          (∀ j, isKnown (pv ++ xv) j = true → Env.get (pv' ++ xv') j = Env.get (pv ++ xv) j) → (∀ p ∈ xv', Dn l p.1 ∨ p.1 = i) →
          Ev X.P (lone (X.c.fr (putA a o.dst v) ds (.inRegion ops (Region.linearise.go .any ops fuel (t / (Region.ready .any ops l).length) (l.setIfInBounds i true) []) :: k)) X.cs w') X.G := by
        intro n' fs' pv' xv' H' v w' hp' S' hd hv hsame hxv'
        have hds := dn_set (l := l) (i := i) (by omega)
        have hAgD : AgD X.n ops.toList E0 (pv' ++ xv') (Dn l) a := by
          refine ⟨ha.size, fun j p t u hDj hp hpd hlast hu => ?_, ha.old⟩
          refine ha.done j p t u hDj hp hpd hlast ?_
          rw [← hsame j (hkn j p hp hDj)]
          exact hu
        have hst := hAgD.step hok hdl hcl hoL hnd hd hv
        refine ih _ _ n' fs' pv' xv' H' _ w' (by simpa using hs) ?_ ?_ ?_ ?_ hp' ?_ S'
        · intro j p hj hDj m hm
          rw [hds] at hDj ⊢
          rcases hDj with hDj | rfl
          · exact .inl (hcl j p hj hDj m hm)
          · rw [hoL] at hj; cases hj
            exact .inl (hdeps m hm)
        · intro j p hj hDj
          rw [hds] at hDj
          rcases hDj with hDj | rfl
          · have := hkn j p hj hDj
            unfold isKnown at this ⊢
            rw [hsame j this]; exact this
          · unfold isKnown; rw [hv]; rfl
        · intro p hp
          rw [hds]; exact hxv' p hp
        · have hcount : ((List.range ops.size).filter fun j => (l.setIfInBounds i true).getD j false).length = ((List.range ops.size).filter fun j => l.getD j false).length + 1 := by
            have hp : ∀ j, (l.setIfInBounds i true).getD j false = (l.getD j false || Nat.beq j i) := by
              intro j
              have : (l.setIfInBounds i true).getD j false = true ↔ l.getD j false = true ∨ j = i := hds j
              rw [Bool.eq_iff_iff, Bool.or_eq_true, this]
              constructor
              · rintro (h | h)
                · exact .inl h
                · exact .inr (by subst h; simp)
              · rintro (h | h)
                · exact .inl h
                · exact .inr (Nat.eq_of_beq_eq_true h)
            have hif : l.getD i false = false := by
              cases hb : l.getD i false with
              | false => rfl
              | true => exact absurd hb hnd
            have hset : (List.range ops.size).filter (fun j => (l.setIfInBounds i true).getD j false) = (List.range ops.size).filter fun j => ((fun j => l.getD j false) j || Nat.beq j i) := List.filter_congr fun j _ => hp j
            rw [hset]
            exact count_more _ i hif _ List.nodup_range (List.mem_range.2 hlt)
          omega
        · refine ⟨hst.size, ?_, ?_⟩
          · intro j p t u hDj hp hpd hlast hu
            exact hst.done j p t u ((hds j).1 hDj) hp hpd (fun m hm hDm q hq => hlast m hm ((hds m).2 hDm) q hq) hu
          · intro t u hno hu
            exact hst.old t u (fun m hDm p hp => hno m ((hds m).2 hDm) p hp) hu
      -- an operation whose value is known in this phase
      have pureCase : ∀ v, Env.get pv i = some v → PureL X ops.toList E0 (pv ++ xv) xv H pv →
          Ev X.P (lone (X.c.fr a ds (.inRegion ops (i :: Region.linearise.go .any ops fuel (t / (Region.ready .any ops l).length) (l.setIfInBounds i true) []) :: k)) X.cs w) X.G := by
        intro v hv hpl
        have hone : PureOne X ops.toList E0 (pv ++ xv) H i v := by
          rcases hpl.get hv with h | h
          · obtain ⟨p, hp1, hp2⟩ := List.any_eq_true.1 h
            have hDp := hxv p hp1
            cases hop : ops.toList[p.1]? with
            | none =>
              exfalso
              have hlen : (masks ops.toList []).length = ops.toList.length := by have := masks_len ops.toList []; simpa using this
              have hnone : (masks ops.toList []).getD p.1 0 = 0 := by
                rw [List.getElem?_eq_none_iff] at hop
                simp [List.getD, List.getElem?_eq_none (show (masks ops.toList []).length ≤ p.1 by omega)]
              unfold befB at hp2
              rw [hnone] at hp2
              simp at hp2
            | some q => exact absurd (bef_done hcl hdl p.1 q hop (hcl p.1 q hop hDp) i hp2) hnd
          · exact h
        obtain ⟨o', ho', hd, hor⟩ := hone
        rw [hoL] at ho'; cases ho'
        have hget : Env.get (pv ++ xv) i = some v := by rw [get_app, hv]
        have hcont := fun (w' : World) (S' : Sep X.w0 X.base w' H) => after n fs pv xv H v w' hp S' hd hget (fun j _ => rfl) (fun p hp => .inl (hxv p hp))
        rcases hor with ⟨hw, hdo⟩ | ⟨hw, rfl⟩
        · obtain ⟨v', H', w', ⟨rfl, rfl⟩, S', hst⟩ := hdo o.dst o.type o.pos o.after o.guard ops i _ k ds a w ho (wants_true hAg hprelt hw) (fun x u hx => hAg.ev hx) S
          exact .steps hst (hcont w' S')
        · exact .step (go_op_skip ho (wants_false hAg hprelt hw)) (hcont w S)
      cases n with
      | zero =>
        obtain ⟨hpl, hall, hat⟩ := hp
        have hk1 := List.all_eq_true.1 hall (o, i) (List.mem_iff_getElem?.2 ⟨i, by simp [List.getElem?_zipIdx, hoL]⟩)
        have hk1 : isKnown (pv ++ xv) i = true := hk1
        cases hv : Env.get pv i with
        | some v => exact pureCase v hv hpl
        | none =>
          unfold isKnown at hk1
          rw [get_app, hv] at hk1
          cases hx : Env.get xv i with
          | none => rw [hx] at hk1; cases hk1
          | some u => exact absurd (hxv _ (get_mem hx)) hnd
      | succ n =>
        have hp0 := hp
        obtain ⟨hpl, hne, hek, hwt, hAll⟩ := hp
        have hunk : ∀ x ∈ fs, Env.get (pv ++ xv) x = none := by
          intro x hx
          have := List.all_eq_true.1 hek x hx
          unfold isKnown at this
          cases hg : Env.get (pv ++ xv) x with
          | none => rfl
          | some u => rw [hg] at this; cases this
        by_cases hie : i ∈ fs
        · obtain ⟨oe, hoe, hd, hw, R, hdo, hR⟩ := hAll.get i hie
          rw [hoL] at hoe; cases hoe
          obtain ⟨v, H', w', hRv, S', hst⟩ := hdo o.dst o.type o.pos o.after o.guard ops i (Region.linearise.go .any ops fuel (t / (Region.ready .any ops l).length) (l.setIfInBounds i true) []) k ds a w ho (wants_true hAg hprelt hw) (fun x u hx => hAg.ev hx) S
          obtain ⟨pv', fs', hpv', hp'⟩ := hR v H' hRv
          refine .steps hst ?_
          have hfresh : ∀ j u, Env.get pv' j = some u → Env.get (pv ++ xv) j = none ∧ j ≠ i := by
            intro j u hj
            have hm : ∃ p ∈ pv', p.1 = j := by
              clear hp' hpv'
              induction pv' with
              | nil => simp [Env.get] at hj
              | cons p pv' ihp =>
                simp only [Env.get] at hj
                by_cases e : p.1 = j
                · exact ⟨p, by simp, e⟩
                · rw [beq_no e] at hj
                  obtain ⟨q, hq, hq2⟩ := ihp hj
                  exact ⟨q, by simp [hq], hq2⟩
            obtain ⟨p, hp1, rfl⟩ := hm
            have := List.all_eq_true.1 hpv' p hp1
            rw [Bool.and_eq_true, Bool.not_eq_true', Bool.not_eq_true'] at this
            refine ⟨?_, ?_⟩
            · have h1 := this.1
              unfold isKnown at h1
              cases hg : Env.get (pv ++ xv) p.1 with
              | none => rfl
              | some u => rw [hg] at h1; cases h1
            · intro e
              have h2 := this.2
              rw [e] at h2
              simp at h2
          have hi0 := hunk i hie
          have hpi : Env.get pv i = none := by
            rw [get_app] at hi0
            cases hg : Env.get pv i with
            | none => rfl
            | some u => rw [hg] at hi0; cases hi0
          have hget : Env.get ((pv' ++ pv) ++ ((i, v) :: xv)) i = some v := by
            rw [get_app, get_app]
            cases hg : Env.get pv' i with
            | some u => exact absurd rfl (hfresh i u hg).2
            | none => simp [hpi, Env.get]
          refine after n fs' _ _ H' v w' hp' S' hd hget ?_ ?_
          · intro j hj
            have hj0 : Env.get (pv ++ xv) j ≠ none := by
              unfold isKnown at hj
              intro h; rw [h] at hj; cases hj
            have hji : j ≠ i := by rintro rfl; exact hj0 hi0
            rw [get_app, get_app, get_app]
            cases hg : Env.get pv' j with
            | some u => exact absurd (hfresh j u hg).1 hj0
            | none =>
              cases hg2 : Env.get pv j with
              | some u => rfl
              | none => simp only [Env.get, beq_no (Ne.symm hji)]
          · intro p hp
            rcases List.mem_cons.1 hp with rfl | hp
            · exact .inr rfl
            · exact .inl (hxv p hp)
        · have hk1 := List.all_eq_true.1 hwt (o, i) (List.mem_iff_getElem?.2 ⟨i, by simp [List.getElem?_zipIdx, hoL]⟩)
          have hk1 : (isKnown (pv ++ xv) i || (fs.any fun e => Nat.beq i e) || (depsL o).any fun j => !isKnown (pv ++ xv) j) = true := hk1
          have hany : ((depsL o).any fun j => !isKnown (pv ++ xv) j) = false := by
            cases hb : ((depsL o).any fun j => !isKnown (pv ++ xv) j) with
            | false => rfl
            | true =>
              obtain ⟨j, hj, hjk⟩ := List.any_eq_true.1 hb
              have hDj := hdeps j hj
              have hjlt : j < i := by
                have h1 := List.all_eq_true.1 hdl (o, i) (List.mem_iff_getElem?.2 ⟨i, by simp [List.getElem?_zipIdx, hoL]⟩)
                exact blt_lt (List.all_eq_true.1 h1 j hj)
              have hjl : j < ops.toList.length := by simpa using (show j < ops.size by omega)
              have := hkn j _ (List.getElem?_eq_getElem hjl) hDj
              rw [this] at hjk; cases hjk
          have hfs : (fs.any fun e => Nat.beq i e) = false := by
            cases hb : (fs.any fun e => Nat.beq i e) with
            | false => rfl
            | true =>
              obtain ⟨e, he, he2⟩ := List.any_eq_true.1 hb
              exact absurd (Nat.eq_of_beq_eq_true he2 ▸ he) hie
          rw [hfs, hany, Bool.or_false, Bool.or_false] at hk1
          cases hv : Env.get pv i with
          | some v => exact pureCase v hv hpl
          | none =>
            unfold isKnown at hk1
            rw [get_app, hv] at hk1
            cases hx : Env.get xv i with
            | none => rw [hx] at hk1; cases hk1
            | some u => exact absurd (hxv _ (get_mem hx)) hnd
    · rename_i hnone
      have hempty : Region.ready .any ops l = [] := by
        cases hr : Region.ready .any ops l with
        | nil => rfl
        | cons b r =>
          have hlen : t % (Region.ready .any ops l).length < (Region.ready .any ops l).length := Nat.mod_lt _ (by rw [hr]; simp)
          exact absurd hnone (by
            show ¬ (Region.ready .any ops l)[t % (Region.ready .any ops l).length]? = none
            rw [List.getElem?_eq_getElem hlen]; simp)
      have hall := all_done hdl hs hempty
      cases n with
      | succ n =>
        obtain ⟨_, hne, hun, _, hall2⟩ := hp
        cases fs with
        | nil => exact absurd rfl hne
        | cons e es =>
          obtain ⟨o, ho, _⟩ := hall2.1
          have h1 := hkn e o ho (hall e o ho)
          have h2 := List.all_eq_true.1 hun e (by simp)
          rw [h1] at h2; cases h2
      | zero =>
        obtain ⟨_, hkn2, hat⟩ := hp
        simp only [List.reverse_nil]
        refine .step go_region_end (hat a w (ha.fin hall (fun i o ho => ?_)) S)
        exact hkn i o ho (hall i o ho)
theorem At.drawM {id : Nat} {n : Nat} {fs : List Nat} {pv : Env} {H : List Seg} (hm : X.P.follows .mixedOrders = true) (hok : okTmps ops.toList = true) (hdl : okDeps ops.toList = true) (hrd : (ops.toList.all fun o => (readsOf ops.toList o).all fun t => Nat.blt t X.n) = true)
    (hp : PhM X ops.toList k E0 ds n fs pv [] H) : At X (.code (.region id ops true) :: k) E0 ds H := by
  intro a w ha S
  refine .step go_region_draw ?_
  have hno : ∀ i, ¬ Dn (Array.replicate ops.size false) i := by
    intro i hi
    unfold Dn at hi
    rw [Array.getD_eq_getD_getElem?, Array.getElem?_replicate] at hi
    split at hi <;> simp at hi
  unfold Region.schedule Region.linearise
  rw [hm, Bool.true_or, if_pos rfl]
  refine draw_goM hok hdl hrd ops.size _ _ n fs pv [] H a _ (by simp) ?_ ?_ ?_ (Nat.le_add_right _ _) hp ⟨ha.size, ?_, ?_⟩ (S.drawn _)
  · exact fun i o _ h => absurd h (hno i)
  · exact fun i o _ h => absurd h (hno i)
  · intro p h; cases h
  · exact fun j o t v h => absurd h (hno j)
  · exact fun t v _ h => ha.get t v h
end
section
variable {X : Pt} {k : List Item} {E : Env} {ds : List Deferred} {H : List Seg} {id : Nat} {rops : Array Oper}
theorem At.joinQ (Q : Env → List Seg → Prop) (h : (∀ E2 H2, Q E2 H2 → At X k E2 ds H2) → At X (.code (.region id rops true) :: k) E ds H) (K : ∀ E2 H2, Q E2 H2 → At X k E2 ds H2) : At X (.code (.region id rops true) :: k) E ds H := h K
end
end Go.Proofs.YtlkdmbpbjhjkfaaGreatDoor
namespace Go.Proofs.YtlkdmbpbjhjkfaaGreatDoor
set_option linter.unusedVariables false
set_option linter.unusedSimpArgs false
set_option maxRecDepth 100000
set_option maxHeartbeats 400000 in
theorem over_ok14 {w0 : World} {base : Nat} {H : List Seg} {r : Nat} {a0 a1 a2 a3 a4 a5 a6 a7 a8 a9 a10 a11 a12 : Value} :
    SCalls Tryz.prog 116 [.pointer (some ⟨r, 0, none⟩)] w0 base ([(r, .cells #[a0, a1, a2, a3, a4, a5, a6, a7, a8, a9, a10, a11, a12] 51 (0, 0))] :: H) (fun v H' => v = .tuple #[] ∧ H' = [(r, .cells #[a0, .slice none 0 0, .nilFunc, a3, a4, a5, a6, a7, a8, a9, a10, a11, a12] 51 (0, 0))] :: H) := by
  refine SCalls.of_walk (n := 8) Tryz.func116 rfl rfl rfl fun cs => ?_
  refine At.region ?_
  refine AtL.move (.inl rfl) rfl rfl ?_
  refine AtL.move (.inl rfl) rfl rfl ?_
  refine AtL.nilCheck (.inl rfl) rfl rfl ?_
  refine AtL.fieldAddrB tf_fo51_2 (.inl rfl) rfl rfl rfl ?_
  refine AtL.store (H' := [(r, .cells #[a0, a1, .nilFunc, a3, a4, a5, a6, a7, a8, a9, a10, a11, a12] 51 (0, 0))] :: H) 0 0 tf_sz23 (.inl rfl) rfl rfl rfl rfl rfl rfl rfl rfl rfl ?_
  refine AtL.nilCheck (.inl rfl) rfl rfl ?_
  refine AtL.fieldAddrB tf_fo51_1 (.inl rfl) rfl rfl rfl ?_
  refine AtL.store (H' := [(r, .cells #[a0, .slice none 0 0, .nilFunc, a3, a4, a5, a6, a7, a8, a9, a10, a11, a12] 51 (0, 0))] :: H) 0 0 tf_sz22 (.inl rfl) rfl rfl rfl rfl rfl rfl rfl rfl rfl ?_
  refine AtL.done ?_
  exact At.end_ Tryz.func116 rfl rfl (⟨rfl, rfl⟩)
set_option maxHeartbeats 400000 in
theorem ends_ok14 {w0 : World} {base : Nat} {H : List Seg} {r : Nat} {a0 a1 a2 a3 a4 a5 a6 a7 a8 a9 a10 a11 : Value} {y : Sl tyItem 49} (hyl : y.l.length ≤ 1000000) (s : Int) :
    SCalls Tryz.prog 75 [.pointer (some ⟨r, 0, none⟩), .int .i64 s] w0 base (y.s :: [(r, .cells #[a0, a1, a2, a3, a4, a5, a6, a7, a8, a9, a10, a11, .slice y.A y.l.length y.C] 51 (0, 0))] :: H) (fun v H' => ∃ y' : Sl tyItem 49, y'.l = y.l ++ [(s, ([] : List UInt8), ([] : List UInt8), (0 : Int), (⟨none, 0, []⟩ : Vs (List UInt8 × List UInt8)), (⟨none, 0, []⟩ : Vs UInt8), false)] ∧ v = .bool false ∧ H' = y'.s :: [(r, .cells #[a0, .slice none 0 0, .nilFunc, a3, a4, a5, a6, a7, a8, a9, a10, a11, .slice y'.A y'.l.length y'.C] 51 (0, 0))] :: H) := by
  have hcapy := Own.cap_le y.own
  refine SCalls.of_walk (n := 18) Tryz.func75 rfl rfl rfl fun cs => ?_
  refine At.seq ?_
  refine At.region ?_
  refine AtL.assign (.inl rfl) rfl rfl ?_
  refine AtL.done ?_
  refine At.seq ?_
  refine At.region ?_
  refine AtL.move (.inl rfl) rfl rfl ?_
  refine AtL.move (.inl rfl) rfl rfl ?_
  refine AtL.nilCheck (.inl rfl) rfl rfl ?_
  refine AtL.fieldAddrB tf_fo51_6 (.inl rfl) rfl rfl rfl ?_
  refine AtL.load tf_flat40 (.inl rfl) rfl rfl (Cell.own 1 0 rfl rfl rfl) ?_
  refine AtL.move (.inl rfl) rfl rfl ?_
  refine AtL.build (cs := [.int .i64 s, str [], str [], .int .i64 0, .slice none 0 0, .slice none 0 0, .bool false]) tf_lay49 (.inl rfl) rfl rfl rfl ?_
  refine AtL.buildSlice (cs := [.int .i64 s, str [], str [], .int .i64 0, .slice none 0 0, .slice none 0 0, .bool false]) Tryz.underlying40 tf_zero49 tf_sz49 rfl rfl (.inl rfl) rfl rfl rfl ?_
  intro b1
  refine AtL.own1 tyItem (l := ([((s : Int), ([] : List UInt8), ([] : List UInt8), (0 : Int), (⟨none, 0, []⟩ : Vs (List UInt8 × List UInt8)), (⟨none, 0, []⟩ : Vs UInt8), false)] : List (Int × List UInt8 × List UInt8 × Int × Vs (List UInt8 × List UInt8) × Vs UInt8 × Bool))) rfl rfl (by first | decide | simp) ?_
  intro s2 o3
  refine AtL.append (l := y.l) (news := [((s : Int), ([] : List UInt8), ([] : List UInt8), (0 : Int), (⟨none, 0, []⟩ : Vs (List UInt8 × List UInt8)), (⟨none, 0, []⟩ : Vs UInt8), false)]) 1 tf_el40 rfl y.own (o3.rd (i := 0) rfl) (by first | omega | (simp only [List.length_append, List.length_cons, List.length_nil]; omega) | (simp; done) | (simp; omega)) (.inl rfl) rfl rfl rfl ?_
  intro A4 C5 s6 o7
  refine AtL.nilCheck (.inl rfl) rfl rfl ?_
  refine AtL.fieldAddrB tf_fo51_6 (.inl rfl) rfl rfl rfl ?_
  refine AtL.store (H' := s2 :: s6 :: [(r, .cells #[a0, a1, a2, a3, a4, a5, a6, a7, a8, a9, a10, a11, .slice A4 (y.l ++ ([((s : Int), ([] : List UInt8), ([] : List UInt8), (0 : Int), (⟨none, 0, []⟩ : Vs (List UInt8 × List UInt8)), (⟨none, 0, []⟩ : Vs UInt8), false)])).length C5] 51 (0, 0))] :: H) 2 0 tf_sz40 (.inl rfl) rfl rfl rfl rfl rfl rfl rfl rfl rfl ?_
  refine AtL.done ?_
  refine At.seq ?_
  refine At.region ?_
  refine AtL.move (.inl rfl) rfl rfl ?_
  refine AtL.pick (H' := [(r, .cells #[a0, a1, a2, a3, a4, a5, a6, a7, a8, a9, a10, a11, .slice A4 (y.l ++ ([((s : Int), ([] : List UInt8), ([] : List UInt8), (0 : Int), (⟨none, 0, []⟩ : Vs (List UInt8 × List UInt8)), (⟨none, 0, []⟩ : Vs UInt8), false)])).length C5] 51 (0, 0))] :: s2 :: s6 :: H) [2, 0, 1] 3 rfl rfl ?_
  refine AtL.call tf_body116 (.inl rfl) rfl rfl over_ok14 ?_
  rintro _ _ ⟨rfl, rfl⟩
  refine AtL.done ?_
  refine At.seq ?_
  refine At.region ?_
  refine AtL.assign (.inl rfl) rfl rfl ?_
  refine AtL.done ?_
  refine At.pick (H' := s6 :: [(r, .cells #[a0, .slice none 0 0, .nilFunc, a3, a4, a5, a6, a7, a8, a9, a10, a11, .slice A4 (y.l ++ ([((s : Int), ([] : List UInt8), ([] : List UInt8), (0 : Int), (⟨none, 0, []⟩ : Vs (List UInt8 × List UInt8)), (⟨none, 0, []⟩ : Vs UInt8), false)])).length C5] 51 (0, 0))] :: H) [2, 0] 3 rfl rfl ?_
  exact At.ret Tryz.func75 rfl rfl (⟨⟨A4, C5, y.l ++ ([((s : Int), ([] : List UInt8), ([] : List UInt8), (0 : Int), (⟨none, 0, []⟩ : Vs (List UInt8 × List UInt8)), (⟨none, 0, []⟩ : Vs UInt8), false)]), s6, o7⟩, rfl, rfl, rfl⟩)
theorem rd_isNone14 {α : Type} {T : Ty α} {w0 : World} {base : Nat} {H : List Seg} {A : Option Addr} {C : Nat} {l : List α} (h : Rd T w0 base H A C l) (hA : A.isNone = true) : l = [] := by
  cases A with
  | none => exact List.eq_nil_of_length_eq_zero (by have := h.nil rfl; have := h.le; omega)
  | some a => cases hA
set_option maxHeartbeats 400000 in
theorem hclone_ok {w0 : World} {base : Nat} {H : List Seg} {A : Option Addr} {C : Nat} {l : List UInt8} (h : Rd tyB w0 base H A C l) (hbl : l.length ≤ 4294967280) :
    SCalls Tryz.prog 95 [.slice A l.length C] w0 base (H) (fun v H' => ∃ x : Sl tyB 5, x.l = l ∧ v = .slice x.A x.l.length x.C ∧ H' = x.s :: H) := by
  have hle0 := h.le
  have hcap0 := h.cap
  refine SCalls.of_walk (n := 8) Tryz.func95 rfl rfl rfl fun cs => ?_
  refine At.seq ?_
  refine At.region ?_
  refine AtL.assign (.inl rfl) rfl rfl ?_
  refine AtL.done ?_
  refine At.seq ?_
  refine At.seq ?_
  refine At.region ?_
  refine AtL.move (.inl rfl) rfl rfl ?_
  refine AtL.eqSliceNil Tryz.underlying22 (.inl rfl) rfl rfl rfl ?_
  refine AtL.done ?_
  refine At.cond rfl ?_ ?_
  · intro hc1
    have hc1 : A.isNone = true := hc1
    refine At.seq ?_
    refine At.region ?_
    refine AtL.assign (.inl rfl) rfl rfl ?_
    refine AtL.done ?_
    refine At.nil ?_
    exact At.ret Tryz.func95 rfl rfl (⟨Sl.nil, (rd_isNone14 h hc1).symm, rfl, rfl⟩)
  · intro hc1
    have hc1 : A.isNone = false := hc1
    refine At.skip ?_
    refine At.seq ?_
    refine At.region ?_
    refine AtL.buildSlice (cs := []) Tryz.underlying22 tf_zero5 tf_sz5 rfl rfl (.inl rfl) rfl rfl rfl ?_
    intro b1
    refine AtL.own1 tyB (l := ([] : List UInt8)) rfl rfl (by first | decide | simp) ?_
    intro s2 o3
    refine AtL.move (.inl rfl) rfl rfl ?_
    refine AtL.append (l := []) (news := l) 0 tf_el22 rfl o3 (Rd.skip 1 h) (by first | omega | (simp only [List.length_append, List.length_cons, List.length_nil]; omega) | (simp; done) | (simp; omega)) (.inl rfl) rfl rfl rfl ?_
    intro A4 C5 s6 o7
    refine AtL.assign (.inl rfl) rfl rfl ?_
    refine AtL.done ?_
    exact At.ret Tryz.func95 rfl rfl (⟨⟨A4, C5, l, s6, o7⟩, by simp, rfl, rfl⟩)
set_option maxHeartbeats 1000000 in
theorem rdhead_ok {w0 : World} {base : Nat} {H : List Seg} {r : Nat} {x : Sl tyB 5} {y : Sl tyItem 49} {g : Nat → Value} (hyl : y.l.length ≤ 1000000) (hxl : x.l.length ≤ 4294967280) (T : Tabs w0 base) :
    SCalls Tryz.prog 47 [.pointer (some ⟨r, 0, none⟩)] w0 base (y.s :: x.s :: [(r, .cells #[.bool true, .slice x.A x.l.length x.C, .func (.func 47) #[.pointer (some ⟨r, 0, none⟩)] #[], g 0, g 1, g 2, g 3, g 4, g 5, g 6, g 7, g 8, .slice y.A y.l.length y.C] 51 (0, 0))] :: H) (fun v H' => (headF14 x.l = .wait ∧ v = .bool false ∧ H' = y.s :: x.s :: rdC r .head x (.slice y.A y.l.length y.C) g :: H) ∨ (∃ (s : Int) (y' : Sl tyItem 49) (g' : Nat → Value), headF14 x.l = .ends s ∧ y'.l = y.l ++ [(s, ([] : List UInt8), ([] : List UInt8), (0 : Int), (⟨none, 0, []⟩ : Vs (List UInt8 × List UInt8)), (⟨none, 0, []⟩ : Vs UInt8), false)] ∧ v = .bool false ∧ H' = y'.s :: x.s :: rdC r .over x (.slice y'.A y'.l.length y'.C) g' :: H) ∨ (∃ (m t : List UInt8) (minor : Int) (f : Sl tyField 78) (keep : Bool) (long body : Nat), headF14 x.l = .ready ⟨m, t, minor, f.l⟩ long body keep ∧ v = .bool true ∧ H' = f.s :: y.s :: x.s :: rdC r (.rest m t minor f keep long body) x (.slice y.A y.l.length y.C) g :: H)) := by
  have hcapx := Own.cap_le x.own
  have hcapy := Own.cap_le y.own
  refine SCalls.of_walk (n := 101) Tryz.func47 rfl rfl rfl fun cs => ?_
  refine At.seq ?_
  refine At.region ?_
  refine AtL.assign (.inl rfl) rfl rfl ?_
  refine AtL.done ?_
  refine At.seq ?_
  refine At.region ?_
  refine AtL.move (.inl rfl) rfl rfl ?_
  refine AtL.nilCheck (.inl rfl) rfl rfl ?_
  refine AtL.fieldAddrB tf_fo51_1 (.inl rfl) rfl rfl rfl ?_
  refine AtL.load tf_flat22 (.inl rfl) rfl rfl (Cell.own 2 0 rfl rfl rfl) ?_
  refine AtL.buildSlice (cs := [.int .u8 13, .int .u8 10, .int .u8 13, .int .u8 10]) Tryz.underlying22 tf_zero5 tf_sz5 rfl rfl (.inl rfl) rfl rfl rfl ?_
  intro b1
  refine AtL.convSl1 (l := [13, 10, 13, 10]) 0 Tryz.underlying22 Tryz.underlying5 rfl rfl rfl (by decide) (.inl rfl) rfl rfl ?_
  intro s2 o3
  refine AtL.call tf_body74 (.inl rfl) rfl rfl (index_ok (l := x.l) (l2 := [13, 10, 13, 10]) (x.own.rd (i := 2) rfl) (o3.rd (i := 0) rfl) (by omega) (by decide) T) ?_
  rintro _ _ ⟨rfl, rfl⟩
  obtain ⟨zx, hzx⟩ : ∃ zx : Int, zx = Lib.index x.l CR2 := ⟨_, rfl⟩
  rw [show Lib.index x.l [13, 10, 13, 10] = zx from hzx.symm]
  have hzxg := Lib.index_ge x.l CR2
  have hzxr := Lib.index_room x.l CR2
  rw [← hzx] at hzxg hzxr
  refine AtL.assign (.inl rfl) rfl rfl ?_
  refine AtL.done ?_
  refine At.seq ?_
  refine At.seq ?_
  refine At.region ?_
  refine AtL.move (.inl rfl) rfl rfl ?_
  refine AtL.lss (.inl rfl) rfl rfl rfl ?_
  refine AtL.move (.inl rfl) rfl rfl ?_
  refine AtL.join 4 (E' := [(22, .bool (decide (((zx : Int) < 0) ∨ (4096 < (zx + 4 : Int))))), (0, .pointer (some ⟨r, 0, none⟩)), (3, .int .i64 zx)]) (H' := s2 :: y.s :: x.s :: [(r, .cells #[.bool true, .slice x.A x.l.length x.C, .func (.func 47) #[.pointer (some ⟨r, 0, none⟩)] #[], g 0, g 1, g 2, g 3, g 4, g 5, g 6, g 7, g 8, .slice y.A y.l.length y.C] 51 (0, 0))] :: H) (fun J => ?_) ?_
  · refine AtL.split (t := 18) rfl ?_ ?_
    · intro hs18
      have hs18 : (zx : Int) < 0 := of_decide_eq_true hs18
      refine AtL.skipped rfl rfl rfl rfl rfl rfl ?_
      refine AtL.skipped rfl rfl rfl rfl rfl rfl ?_
      refine AtL.skipped rfl rfl rfl rfl rfl rfl ?_
      refine AtL.pickT (.inl rfl) rfl rfl rfl ?_
      exact J _ (by exact ⟨(boolIs (by clear J; first | (simp [hs18]; done) | (simp_all; done) | grind)), rfl, rfl, trivial⟩)
    · intro hs18
      have hs18 : ¬ ((zx : Int) < 0) := of_decide_eq_false hs18
      refine AtL.move (.inr ⟨_, _, _, rfl, rfl, rfl, rfl⟩) rfl rfl ?_
      refine AtL.add (z := zx + 4) (.inr ⟨_, _, _, rfl, rfl, rfl, rfl⟩) rfl rfl rfl (w64 (by omega) (by omega)) ?_
      refine AtL.gtr (.inr ⟨_, _, _, rfl, rfl, rfl, rfl⟩) rfl rfl rfl ?_
      refine AtL.pickF (.inl rfl) rfl rfl rfl ?_
      exact J _ (by exact ⟨(boolIs (by clear J; first | (simp [hs18]; done) | (simp_all; done) | grind)), rfl, rfl, trivial⟩)
  · skip
    refine AtL.done ?_
    refine At.cond rfl ?_ ?_
    · intro hc1
      have hc1 : ((zx : Int) < 0) ∨ (4096 < (zx + 4 : Int)) := of_decide_eq_true hc1
      refine At.seq ?_
      refine At.seq ?_
      refine At.region ?_
      refine AtL.move (.inl rfl) rfl rfl ?_
      refine AtL.nilCheck (.inl rfl) rfl rfl ?_
      refine AtL.fieldAddrB tf_fo51_1 (.inl rfl) rfl rfl rfl ?_
      refine AtL.load tf_flat22 (.inl rfl) rfl rfl (Cell.own 3 0 rfl rfl rfl) ?_
      refine AtL.lenL Tryz.underlying22 (.inl rfl) rfl rfl ?_
      refine AtL.gtr (.inl rfl) rfl rfl rfl ?_
      refine AtL.done ?_
      refine At.cond rfl ?_ ?_
      · intro hc2
        have hc2 : 4096 < (x.l.length : Int) := of_decide_eq_true hc2
        refine At.seq ?_
        refine At.region ?_
        refine AtL.move (.inl rfl) rfl rfl ?_
        refine AtL.pick (H' := y.s :: [(r, .cells #[.bool true, .slice x.A x.l.length x.C, .func (.func 47) #[.pointer (some ⟨r, 0, none⟩)] #[], g 0, g 1, g 2, g 3, g 4, g 5, g 6, g 7, g 8, .slice y.A y.l.length y.C] 51 (0, 0))] :: s2 :: x.s :: H) [1, 3, 0, 2] 4 rfl rfl ?_
        refine AtL.call tf_body75 (.inl rfl) rfl rfl (ends_ok14 (y := y) hyl 431) ?_
        rintro _ _ ⟨⟨A4, C5, l6, s7, o8⟩, hx9, rfl, rfl⟩
        obtain rfl : y.l ++ [(431, ([] : List UInt8), ([] : List UInt8), (0 : Int), (⟨none, 0, []⟩ : Vs (List UInt8 × List UInt8)), (⟨none, 0, []⟩ : Vs UInt8), false)] = l6 := hx9.symm
        refine AtL.assign (.inl rfl) rfl rfl ?_
        refine AtL.done ?_
        refine At.pick (H' := s7 :: x.s :: [(r, .cells #[.bool true, .slice none 0 0, .nilFunc, g 0, g 1, g 2, g 3, g 4, g 5, g 6, g 7, g 8, .slice A4 (y.l ++ [(431, ([] : List UInt8), ([] : List UInt8), (0 : Int), (⟨none, 0, []⟩ : Vs (List UInt8 × List UInt8)), (⟨none, 0, []⟩ : Vs UInt8), false)]).length C5] 51 (0, 0))] :: H) [0, 3, 1] 4 rfl rfl ?_
        exact At.ret Tryz.func47 rfl rfl (.inr (.inl ⟨_, ⟨A4, C5, y.l ++ [(431, ([] : List UInt8), ([] : List UInt8), (0 : Int), (⟨none, 0, []⟩ : Vs (List UInt8 × List UInt8)), (⟨none, 0, []⟩ : Vs UInt8), false)], s7, o8⟩, fun | 0 => g 0 | 1 => g 1 | 2 => g 2 | 3 => g 3 | 4 => g 4 | 5 => g 5 | 6 => g 6 | 7 => g 7 | _ => g 8, by rw [headF14, ← hzx, if_pos hc1, if_pos (by omega)], rfl, rfl, rfl⟩))
      · intro hc2
        have hc2 : ¬ (4096 < (x.l.length : Int)) := of_decide_eq_false hc2
        refine At.skip ?_
        refine At.seq ?_
        refine At.region ?_
        refine AtL.assign (.inl rfl) rfl rfl ?_
        refine AtL.done ?_
        refine At.pick (H' := y.s :: x.s :: [(r, .cells #[.bool true, .slice x.A x.l.length x.C, .func (.func 47) #[.pointer (some ⟨r, 0, none⟩)] #[], g 0, g 1, g 2, g 3, g 4, g 5, g 6, g 7, g 8, .slice y.A y.l.length y.C] 51 (0, 0))] :: H) [1, 2, 3] 4 rfl rfl ?_
        exact At.ret Tryz.func47 rfl rfl (.inl ⟨by rw [headF14, ← hzx, if_pos hc1, if_neg (by omega)], rfl, rfl⟩)
    · intro hc1
      have hc1 : ¬ (((zx : Int) < 0) ∨ (4096 < (zx + 4 : Int))) := of_decide_eq_false hc1
      obtain ⟨n, hn⟩ : ∃ n : Nat, zx = (n : Int) := ⟨zx.toNat, by omega⟩
      subst hn
      have hroom : n + 4 ≤ x.l.length := by have := hzxr (by omega); have e4 : CR2.length = 4 := rfl; omega
      have hask : headF14 x.l = askR x.l (n + 4) := by rw [headF14, ← hzx, if_neg (by omega)]; rfl
      obtain ⟨Pq, hPq⟩ : ∃ Pq : HeadV × Int, Pq = parseF (x.l.take (n + 4)) := ⟨_, rfl⟩
      have hPe : parseF (subl x.l 0 (n + 4)) = Pq := by rw [hPq, subl_to]
      rw [askR, ← hPq] at hask
      refine At.skip ?_
      refine At.seq ?_
      refine At.region ?_
      refine AtL.move (.inl rfl) rfl rfl ?_
      refine AtL.move (.inl rfl) rfl rfl ?_
      refine AtL.add (z := (n : Int) + 4) (.inl rfl) rfl rfl rfl (w64 (by omega) (by omega)) ?_
      refine AtL.nilCheck (.inl rfl) rfl rfl ?_
      refine AtL.fieldAddrB tf_fo51_4 (.inl rfl) rfl rfl rfl ?_
      refine AtL.store (H' := s2 :: y.s :: x.s :: [(r, .cells #[.bool true, .slice x.A x.l.length x.C, .func (.func 47) #[.pointer (some ⟨r, 0, none⟩)] #[], g 0, g 1, g 2, g 3, g 4, g 5, g 6, .int .i64 ((n : Int) + 4), g 8, .slice y.A y.l.length y.C] 51 (0, 0))] :: H) 3 0 tf_sz3 (.inl rfl) rfl rfl rfl rfl rfl rfl rfl rfl rfl ?_
      refine AtL.done ?_
      refine At.seq ?_
      refine At.joinQ (fun E2 H2 => ∃ (b19 : Nat), ∃ (xs16 : Sl tyField 78), xs16.l = Pq.1.fs ∧ Sub [(0, .pointer (some ⟨r, 0, none⟩)), (4, .pointer (some ⟨b19, 0, none⟩)), (5, .int .i64 Pq.2)] E2 ∧ H2 = [(b19, .cells #[str Pq.1.m, str Pq.1.t, .int .i64 Pq.1.minor, .slice xs16.A xs16.l.length xs16.C] 47 (0, 0))] :: xs16.s :: s2 :: y.s :: x.s :: [(r, .cells #[.bool true, .slice x.A x.l.length x.C, .func (.func 47) #[.pointer (some ⟨r, 0, none⟩)] #[], g 0, g 1, g 2, g 3, g 4, g 5, g 6, .int .i64 ((n : Int) + 4), g 8, .slice y.A y.l.length y.C] 51 (0, 0))] :: H) (fun J => ?_) ?_
      · skip
        have hleo22 := Own.le_cap x.own
        obtain ⟨A20, eA20⟩ : ∃ A20 : Option Addr, A20 = (if x.C = 0 then x.A else Option.map (fun a => a.add (0 * tyB.sz)) x.A) := ⟨_, rfl⟩
        obtain ⟨C21, eC21⟩ : ∃ C21 : Nat, C21 = x.C - 0 := ⟨_, rfl⟩
        have o22 : Own tyB 5 A20 C21 (subl x.l 0 (n + 4)) x.s := by rw [eA20, eC21]; exact Own.cut x.own (by omega) (by omega) (by omega) (by omega)
        refine At.drawM (n := 3) (fs := [9, 13]) (pv := [(0, .pointer (some ⟨r, 0, none⟩)), (1, .pointer (some ⟨r, 0, none⟩)), (2, .pointer (some ⟨r, 1, none⟩)), (3, .slice x.A x.l.length x.C), (4, .pointer (some ⟨r, 0, none⟩)), (5, .pointer (some ⟨r, 0, none⟩)), (6, .pointer (some ⟨r, 10, none⟩)), (7, .int .i64 ((n : Int) + 4)), (8, .slice A20 (subl x.l 0 (n + 4)).length C21)]) tf_mixed (by kernel_rfl) (by kernel_rfl) (by kernel_rfl) ?_
        refine ⟨⟨.inr ⟨_, rfl, rfl, .inl ⟨rfl, Do.move rfl⟩⟩, .inr ⟨_, rfl, rfl, .inl ⟨rfl, Do.nilCheck rfl⟩⟩, .inr ⟨_, rfl, rfl, .inl ⟨rfl, Do.fieldAddrB tf_fo51_1 rfl rfl⟩⟩, .inr ⟨_, rfl, rfl, .inl ⟨rfl, Do.load tf_flat22 rfl (Cell.own 3 0 rfl rfl rfl)⟩⟩, .inr ⟨_, rfl, rfl, .inl ⟨rfl, Do.move rfl⟩⟩, .inr ⟨_, rfl, rfl, .inl ⟨rfl, Do.nilCheck rfl⟩⟩, .inr ⟨_, rfl, rfl, .inl ⟨rfl, Do.fieldAddrB tf_fo51_4 rfl rfl⟩⟩, .inr ⟨_, rfl, rfl, .inl ⟨rfl, Do.load tf_flat3 rfl (Cell.own 3 0 rfl rfl rfl)⟩⟩, .inr ⟨_, rfl, rfl, .inl ⟨rfl, Do.sliceX_ (T := tyB) (l := x.l) 0 (n + 4) x.C rfl (evBound_some rfl rfl) rfl (by intro h; cases h) (by omega) (by omega) (Nat.le_refl _) Tryz.underlying22 tf_sz5 rfl eA20 (subl_len (l := x.l) (i := 0) (j := (n + 4)) (by omega)) eC21⟩⟩, trivial⟩, List.cons_ne_nil _ _, by kernel_rfl, by kernel_rfl, ⟨_, rfl, rfl, rfl, _, Do.call tf_body60 rfl (parse_ok (b := subl x.l 0 (n + 4)) (o22.rd (i := 2) rfl) T), ?_⟩, ⟨_, rfl, rfl, rfl, _, Do.alloc tf_zero47 (cs := #[str [], str [], .int .i64 0, .slice none 0 0]) rfl, ?_⟩, trivial⟩
        · skip
          rintro _ _ ⟨⟨A23, C24, l25, s26, o27⟩, rfl, hx28, rfl⟩
          rw [show parseF (subl x.l 0 (n + 4)) = Pq from hPe] at hx28
          obtain rfl : Pq.1.fs = l25 := hx28.symm
          rw [show parseF (subl x.l 0 (n + 4)) = Pq from hPe]
          refine ⟨[(10, .tuple #[.agg #[str Pq.1.m, str Pq.1.t, .int .i64 Pq.1.minor, .slice A23 Pq.1.fs.length C24], .int .i64 Pq.2]), (11, .agg #[str Pq.1.m, str Pq.1.t, .int .i64 Pq.1.minor, .slice A23 Pq.1.fs.length C24]), (12, .int .i64 Pq.2)], [13], rfl, ?_⟩
          refine ⟨⟨.inr ⟨_, rfl, rfl, .inl ⟨rfl, Do.move rfl⟩⟩, .inr ⟨_, rfl, rfl, .inl ⟨rfl, Do.extract rfl rfl⟩⟩, .inr ⟨_, rfl, rfl, .inl ⟨rfl, Do.extract rfl rfl⟩⟩, .inl (by kernel_rfl), .inl (by kernel_rfl), .inl (by kernel_rfl), .inl (by kernel_rfl), .inl (by kernel_rfl), .inl (by kernel_rfl), .inl (by kernel_rfl), .inl (by kernel_rfl), .inl (by kernel_rfl), trivial⟩, List.cons_ne_nil _ _, by kernel_rfl, by kernel_rfl, ⟨_, rfl, rfl, rfl, _, Do.alloc tf_zero47 (cs := #[str [], str [], .int .i64 0, .slice none 0 0]) rfl, ?_⟩, trivial⟩
          rintro _ _ ⟨b30, rfl, rfl⟩
          refine ⟨[], [14], rfl, ?_⟩
          refine ⟨⟨.inr ⟨_, rfl, rfl, .inl ⟨rfl, Do.move rfl⟩⟩, .inr ⟨_, rfl, rfl, .inl ⟨rfl, Do.extract rfl rfl⟩⟩, .inr ⟨_, rfl, rfl, .inl ⟨rfl, Do.extract rfl rfl⟩⟩, .inl (by kernel_rfl), .inl (by kernel_rfl), .inl (by kernel_rfl), .inl (by kernel_rfl), .inl (by kernel_rfl), .inl (by kernel_rfl), .inl (by kernel_rfl), .inl (by kernel_rfl), .inl (by kernel_rfl), trivial⟩, List.cons_ne_nil _ _, by kernel_rfl, by kernel_rfl, ⟨_, rfl, rfl, rfl, _, Do.store (H' := [(b30, .cells #[str Pq.1.m, str Pq.1.t, .int .i64 Pq.1.minor, .slice A23 Pq.1.fs.length C24] 47 (0, 0))] :: s26 :: s2 :: y.s :: x.s :: [(r, .cells #[.bool true, .slice x.A x.l.length x.C, .func (.func 47) #[.pointer (some ⟨r, 0, none⟩)] #[], g 0, g 1, g 2, g 3, g 4, g 5, g 6, .int .i64 ((n : Int) + 4), g 8, .slice y.A y.l.length y.C] 51 (0, 0))] :: H) 0 0 tf_sz47 rfl rfl rfl rfl rfl rfl rfl rfl rfl, ?_⟩, trivial⟩
          rintro _ _ ⟨rfl, rfl⟩
          refine ⟨[(15, .int .i64 Pq.2)], [], rfl, ?_⟩
          refine ⟨⟨.inr ⟨_, rfl, rfl, .inl ⟨rfl, Do.assign rfl⟩⟩, .inl (by kernel_rfl), .inl (by kernel_rfl), .inr ⟨_, rfl, rfl, .inl ⟨rfl, Do.extract rfl rfl⟩⟩, .inl (by kernel_rfl), .inl (by kernel_rfl), .inl (by kernel_rfl), .inl (by kernel_rfl), .inl (by kernel_rfl), .inl (by kernel_rfl), .inl (by kernel_rfl), .inl (by kernel_rfl), .inl (by kernel_rfl), trivial⟩, by kernel_rfl, ?_⟩
          exact J _ _ ⟨b30, ⟨A23, C24, Pq.1.fs, s26, o27⟩, rfl, ⟨rfl, rfl, rfl, trivial⟩, rfl⟩
        · skip
          rintro _ _ ⟨b29, rfl, rfl⟩
          refine ⟨[], [9], rfl, ?_⟩
          refine ⟨⟨.inr ⟨_, rfl, rfl, .inl ⟨rfl, Do.move rfl⟩⟩, .inr ⟨_, rfl, rfl, .inl ⟨rfl, Do.nilCheck rfl⟩⟩, .inr ⟨_, rfl, rfl, .inl ⟨rfl, Do.fieldAddrB tf_fo51_1 rfl rfl⟩⟩, .inr ⟨_, rfl, rfl, .inl ⟨rfl, Do.load tf_flat22 rfl (Cell.own 4 0 rfl rfl rfl)⟩⟩, .inr ⟨_, rfl, rfl, .inl ⟨rfl, Do.move rfl⟩⟩, .inr ⟨_, rfl, rfl, .inl ⟨rfl, Do.nilCheck rfl⟩⟩, .inr ⟨_, rfl, rfl, .inl ⟨rfl, Do.fieldAddrB tf_fo51_4 rfl rfl⟩⟩, .inr ⟨_, rfl, rfl, .inl ⟨rfl, Do.load tf_flat3 rfl (Cell.own 4 0 rfl rfl rfl)⟩⟩, .inr ⟨_, rfl, rfl, .inl ⟨rfl, Do.sliceX_ (T := tyB) (l := x.l) 0 (n + 4) x.C rfl (evBound_some rfl rfl) rfl (by intro h; cases h) (by omega) (by omega) (Nat.le_refl _) Tryz.underlying22 tf_sz5 rfl eA20 (subl_len (l := x.l) (i := 0) (j := (n + 4)) (by omega)) eC21⟩⟩, trivial⟩, List.cons_ne_nil _ _, by kernel_rfl, by kernel_rfl, ⟨_, rfl, rfl, rfl, _, Do.call tf_body60 rfl (parse_ok (b := subl x.l 0 (n + 4)) (o22.rd (i := 3) rfl) T), ?_⟩, trivial⟩
          rintro _ _ ⟨⟨A31, C32, l33, s34, o35⟩, rfl, hx36, rfl⟩
          rw [show parseF (subl x.l 0 (n + 4)) = Pq from hPe] at hx36
          obtain rfl : Pq.1.fs = l33 := hx36.symm
          rw [show parseF (subl x.l 0 (n + 4)) = Pq from hPe]
          refine ⟨[(10, .tuple #[.agg #[str Pq.1.m, str Pq.1.t, .int .i64 Pq.1.minor, .slice A31 Pq.1.fs.length C32], .int .i64 Pq.2]), (11, .agg #[str Pq.1.m, str Pq.1.t, .int .i64 Pq.1.minor, .slice A31 Pq.1.fs.length C32]), (12, .int .i64 Pq.2)], [14], rfl, ?_⟩
          refine ⟨⟨.inr ⟨_, rfl, rfl, .inl ⟨rfl, Do.move rfl⟩⟩, .inr ⟨_, rfl, rfl, .inl ⟨rfl, Do.extract rfl rfl⟩⟩, .inr ⟨_, rfl, rfl, .inl ⟨rfl, Do.extract rfl rfl⟩⟩, .inl (by kernel_rfl), .inl (by kernel_rfl), .inl (by kernel_rfl), .inl (by kernel_rfl), .inl (by kernel_rfl), .inl (by kernel_rfl), .inl (by kernel_rfl), .inl (by kernel_rfl), .inl (by kernel_rfl), trivial⟩, List.cons_ne_nil _ _, by kernel_rfl, by kernel_rfl, ⟨_, rfl, rfl, rfl, _, Do.store (H' := s34 :: [(b29, .cells #[str Pq.1.m, str Pq.1.t, .int .i64 Pq.1.minor, .slice A31 Pq.1.fs.length C32] 47 (0, 0))] :: s2 :: y.s :: x.s :: [(r, .cells #[.bool true, .slice x.A x.l.length x.C, .func (.func 47) #[.pointer (some ⟨r, 0, none⟩)] #[], g 0, g 1, g 2, g 3, g 4, g 5, g 6, .int .i64 ((n : Int) + 4), g 8, .slice y.A y.l.length y.C] 51 (0, 0))] :: H) 1 0 tf_sz47 rfl rfl rfl rfl rfl rfl rfl rfl rfl, ?_⟩, trivial⟩
          rintro _ _ ⟨rfl, rfl⟩
          refine ⟨[(15, .int .i64 Pq.2)], [], rfl, ?_⟩
          refine ⟨⟨.inr ⟨_, rfl, rfl, .inl ⟨rfl, Do.assign rfl⟩⟩, .inl (by kernel_rfl), .inl (by kernel_rfl), .inr ⟨_, rfl, rfl, .inl ⟨rfl, Do.extract rfl rfl⟩⟩, .inl (by kernel_rfl), .inl (by kernel_rfl), .inl (by kernel_rfl), .inl (by kernel_rfl), .inl (by kernel_rfl), .inl (by kernel_rfl), .inl (by kernel_rfl), .inl (by kernel_rfl), .inl (by kernel_rfl), trivial⟩, by kernel_rfl, ?_⟩
          refine At.pick (H' := [(b29, .cells #[str Pq.1.m, str Pq.1.t, .int .i64 Pq.1.minor, .slice A31 Pq.1.fs.length C32] 47 (0, 0))] :: s34 :: s2 :: y.s :: x.s :: [(r, .cells #[.bool true, .slice x.A x.l.length x.C, .func (.func 47) #[.pointer (some ⟨r, 0, none⟩)] #[], g 0, g 1, g 2, g 3, g 4, g 5, g 6, .int .i64 ((n : Int) + 4), g 8, .slice y.A y.l.length y.C] 51 (0, 0))] :: H) [1, 0, 2, 3, 4, 5] 6 rfl rfl ?_
          exact J _ _ ⟨b29, ⟨A31, C32, Pq.1.fs, s34, o35⟩, rfl, ⟨rfl, rfl, rfl, trivial⟩, rfl⟩
      · skip
        rintro E2 H2 ⟨b19, xs16, hxs16, hsub, rfl⟩
        refine At.mono hsub ?_
        clear hsub
        obtain ⟨Axs16, Cxs16, lxs16, sxs16, oxs16⟩ := xs16
        dsimp only at hxs16 ⊢
        obtain rfl : Pq.1.fs = lxs16 := hxs16.symm
        refine At.seq ?_
        refine At.seq ?_
        refine At.region ?_
        refine AtL.move (.inl rfl) rfl rfl ?_
        refine AtL.nei (.inl rfl) rfl rfl rfl ?_
        refine AtL.done ?_
        refine At.cond rfl ?_ ?_
        · intro hc3
          have hc3 : ¬ ((Pq.2 : Int) = 200) := of_decide_eq_false (bnot_true hc3)
          rw [if_pos hc3] at hask
          refine At.seq ?_
          refine At.region ?_
          refine AtL.move (.inl rfl) rfl rfl ?_
          refine AtL.move (.inl rfl) rfl rfl ?_
          refine AtL.pick (H' := y.s :: [(r, .cells #[.bool true, .slice x.A x.l.length x.C, .func (.func 47) #[.pointer (some ⟨r, 0, none⟩)] #[], g 0, g 1, g 2, g 3, g 4, g 5, g 6, .int .i64 ((n : Int) + 4), g 8, .slice y.A y.l.length y.C] 51 (0, 0))] :: [(b19, .cells #[str Pq.1.m, str Pq.1.t, .int .i64 Pq.1.minor, .slice Axs16 Pq.1.fs.length Cxs16] 47 (0, 0))] :: sxs16 :: s2 :: x.s :: H) [3, 5, 0, 1, 2, 4] 6 rfl rfl ?_
          refine AtL.call tf_body75 (.inl rfl) rfl rfl (ends_ok14 (y := y) hyl Pq.2) ?_
          rintro _ _ ⟨⟨A37, C38, l39, s40, o41⟩, hx42, rfl, rfl⟩
          obtain rfl : y.l ++ [(Pq.2, ([] : List UInt8), ([] : List UInt8), (0 : Int), (⟨none, 0, []⟩ : Vs (List UInt8 × List UInt8)), (⟨none, 0, []⟩ : Vs UInt8), false)] = l39 := hx42.symm
          refine AtL.assign (.inl rfl) rfl rfl ?_
          refine AtL.done ?_
          refine At.pick (H' := s40 :: x.s :: [(r, .cells #[.bool true, .slice none 0 0, .nilFunc, g 0, g 1, g 2, g 3, g 4, g 5, g 6, .int .i64 ((n : Int) + 4), g 8, .slice A37 (y.l ++ [(Pq.2, ([] : List UInt8), ([] : List UInt8), (0 : Int), (⟨none, 0, []⟩ : Vs (List UInt8 × List UInt8)), (⟨none, 0, []⟩ : Vs UInt8), false)]).length C38] 51 (0, 0))] :: H) [0, 5, 1] 6 rfl rfl ?_
          exact At.ret Tryz.func47 rfl rfl (.inr (.inl ⟨_, ⟨A37, C38, y.l ++ [(Pq.2, ([] : List UInt8), ([] : List UInt8), (0 : Int), (⟨none, 0, []⟩ : Vs (List UInt8 × List UInt8)), (⟨none, 0, []⟩ : Vs UInt8), false)], s40, o41⟩, fun | 0 => g 0 | 1 => g 1 | 2 => g 2 | 3 => g 3 | 4 => g 4 | 5 => g 5 | 6 => g 6 | 7 => .int .i64 ((n : Int) + 4) | _ => g 8, hask, rfl, rfl, rfl⟩))
        · intro hc3
          have hc3 : (Pq.2 : Int) = 200 := of_decide_eq_true (bnot_false hc3)
          rw [if_neg (by simpa using hc3)] at hask
          obtain ⟨hfl, hb, hb4⟩ : Pq.1.fs.length ≤ 1000 ∧ (∀ f ∈ Pq.1.fs, f.1.length ≤ 140737488355000 ∧ f.2.length ≤ 140737488355000) ∧ (∀ f ∈ Pq.1.fs, f.2.length < 4294967281) := parse_small (p := Pq) (b := x.l.take (n + 4)) (by assumption) (by simpa using hc3) (by rw [List.length_take]; omega)
          refine At.skip ?_
          refine At.seq ?_
          refine At.seq ?_
          refine At.region ?_
          refine AtL.loadN (cs := [str Pq.1.m, str Pq.1.t, .int .i64 Pq.1.minor, .slice Axs16 Pq.1.fs.length Cxs16]) tf_agg47 (.inl rfl) rfl rfl rfl (cellsOwn 0 0 0 rfl rfl rfl) ?_
          refine AtL.call tf_body76 (.inl rfl) rfl rfl (field_ok (fs := Pq.1.fs) (oxs16.rd (i := 1) rfl) (nm := [101, 120, 112, 101, 99, 116]) (by first | omega | decide) hfl hb) ?_
          rintro _ _ ⟨rfl, rfl⟩
          refine AtL.move (.inl rfl) rfl rfl ?_
          refine AtL.extract (.inl rfl) rfl rfl rfl ?_
          refine AtL.extract (.inl rfl) rfl rfl rfl ?_
          refine AtL.assign (.inl rfl) rfl rfl ?_
          refine AtL.assign (.inl rfl) rfl rfl ?_
          refine AtL.done ?_
          refine At.seq ?_
          refine At.region ?_
          refine AtL.move (.inl rfl) rfl rfl ?_
          refine AtL.gtr (.inl rfl) rfl rfl rfl ?_
          refine AtL.done ?_
          refine At.cond rfl ?_ ?_
          · intro hc4
            have hc4 : 0 < ((fieldF Pq.1.fs [101, 120, 112, 101, 99, 116]).2 : Int) := of_decide_eq_true hc4
            rw [if_pos (show 0 < (fieldF Pq.1.fs EXPECT).2 from by have h9 := hc4; show 0 < (fieldF Pq.1.fs [101, 120, 112, 101, 99, 116]).2; omega)] at hask
            refine At.seq ?_
            refine At.region ?_
            refine AtL.move (.inl rfl) rfl rfl ?_
            refine AtL.pick (H' := y.s :: [(r, .cells #[.bool true, .slice x.A x.l.length x.C, .func (.func 47) #[.pointer (some ⟨r, 0, none⟩)] #[], g 0, g 1, g 2, g 3, g 4, g 5, g 6, .int .i64 ((n : Int) + 4), g 8, .slice y.A y.l.length y.C] 51 (0, 0))] :: [(b19, .cells #[str Pq.1.m, str Pq.1.t, .int .i64 Pq.1.minor, .slice Axs16 Pq.1.fs.length Cxs16] 47 (0, 0))] :: sxs16 :: s2 :: x.s :: H) [3, 5, 0, 1, 2, 4] 6 rfl rfl ?_
            refine AtL.call tf_body75 (.inl rfl) rfl rfl (ends_ok14 (y := y) hyl 417) ?_
            rintro _ _ ⟨⟨A43, C44, l45, s46, o47⟩, hx48, rfl, rfl⟩
            obtain rfl : y.l ++ [(417, ([] : List UInt8), ([] : List UInt8), (0 : Int), (⟨none, 0, []⟩ : Vs (List UInt8 × List UInt8)), (⟨none, 0, []⟩ : Vs UInt8), false)] = l45 := hx48.symm
            refine AtL.assign (.inl rfl) rfl rfl ?_
            refine AtL.done ?_
            refine At.pick (H' := s46 :: x.s :: [(r, .cells #[.bool true, .slice none 0 0, .nilFunc, g 0, g 1, g 2, g 3, g 4, g 5, g 6, .int .i64 ((n : Int) + 4), g 8, .slice A43 (y.l ++ [(417, ([] : List UInt8), ([] : List UInt8), (0 : Int), (⟨none, 0, []⟩ : Vs (List UInt8 × List UInt8)), (⟨none, 0, []⟩ : Vs UInt8), false)]).length C44] 51 (0, 0))] :: H) [0, 5, 1] 6 rfl rfl ?_
            exact At.ret Tryz.func47 rfl rfl (.inr (.inl ⟨_, ⟨A43, C44, y.l ++ [(417, ([] : List UInt8), ([] : List UInt8), (0 : Int), (⟨none, 0, []⟩ : Vs (List UInt8 × List UInt8)), (⟨none, 0, []⟩ : Vs UInt8), false)], s46, o47⟩, fun | 0 => g 0 | 1 => g 1 | 2 => g 2 | 3 => g 3 | 4 => g 4 | 5 => g 5 | 6 => g 6 | 7 => .int .i64 ((n : Int) + 4) | _ => g 8, hask, rfl, rfl, rfl⟩))
          · intro hc4
            have hc4 : ¬ (0 < ((fieldF Pq.1.fs [101, 120, 112, 101, 99, 116]).2 : Int)) := of_decide_eq_false hc4
            rw [if_neg (show ¬ 0 < (fieldF Pq.1.fs EXPECT).2 from by have h9 := hc4; show ¬ 0 < (fieldF Pq.1.fs [101, 120, 112, 101, 99, 116]).2; omega)] at hask
            refine At.skip ?_
            refine At.seq ?_
            refine At.region ?_
            refine AtL.loadN (cs := [str Pq.1.m, str Pq.1.t, .int .i64 Pq.1.minor, .slice Axs16 Pq.1.fs.length Cxs16]) tf_agg47 (.inl rfl) rfl rfl rfl (cellsOwn 0 0 0 rfl rfl rfl) ?_
            refine AtL.call tf_body77 (.inl rfl) rfl rfl (length_ok (m := Pq.1.m) (t := Pq.1.t) (minor := Pq.1.minor) (fs := Pq.1.fs) (oxs16.rd (i := 1) rfl) hfl hb) ?_
            rintro _ _ ⟨rfl, rfl⟩
            refine AtL.move (.inl rfl) rfl rfl ?_
            refine AtL.extract (.inl rfl) rfl rfl rfl ?_
            refine AtL.extract (.inl rfl) rfl rfl rfl ?_
            refine AtL.assign (.inl rfl) rfl rfl ?_
            refine AtL.assign (.inl rfl) rfl rfl ?_
            refine AtL.done ?_
            refine At.seq ?_
            refine At.block ?_
            refine At.seq ?_
            refine At.region ?_
            refine AtL.move (.inl rfl) rfl rfl ?_
            refine AtL.nei (.inl rfl) rfl rfl rfl ?_
            refine AtL.assign (.inl rfl) rfl rfl ?_
            refine AtL.done ?_
            refine At.cond rfl ?_ ?_
            · intro hc5
              have hc5 : ¬ (((lengthF Pq.1.fs).2 : Int) = 200) := of_decide_eq_false (bnot_true hc5)
              rw [if_pos (by first | assumption | omega | (simp; omega) | simpa using hc5)] at hask
              refine At.seq ?_
              refine At.region ?_
              refine AtL.move (.inl rfl) rfl rfl ?_
              refine AtL.move (.inl rfl) rfl rfl ?_
              refine AtL.pick (H' := y.s :: [(r, .cells #[.bool true, .slice x.A x.l.length x.C, .func (.func 47) #[.pointer (some ⟨r, 0, none⟩)] #[], g 0, g 1, g 2, g 3, g 4, g 5, g 6, .int .i64 ((n : Int) + 4), g 8, .slice y.A y.l.length y.C] 51 (0, 0))] :: [(b19, .cells #[str Pq.1.m, str Pq.1.t, .int .i64 Pq.1.minor, .slice Axs16 Pq.1.fs.length Cxs16] 47 (0, 0))] :: sxs16 :: s2 :: x.s :: H) [3, 5, 0, 1, 2, 4] 6 rfl rfl ?_
              refine AtL.call tf_body75 (.inl rfl) rfl rfl (ends_ok14 (y := y) hyl ((lengthF Pq.1.fs).2)) ?_
              rintro _ _ ⟨⟨A49, C50, l51, s52, o53⟩, hx54, rfl, rfl⟩
              obtain rfl : y.l ++ [((lengthF Pq.1.fs).2, ([] : List UInt8), ([] : List UInt8), (0 : Int), (⟨none, 0, []⟩ : Vs (List UInt8 × List UInt8)), (⟨none, 0, []⟩ : Vs UInt8), false)] = l51 := hx54.symm
              refine AtL.assign (.inl rfl) rfl rfl ?_
              refine AtL.done ?_
              refine At.pick (H' := s52 :: x.s :: [(r, .cells #[.bool true, .slice none 0 0, .nilFunc, g 0, g 1, g 2, g 3, g 4, g 5, g 6, .int .i64 ((n : Int) + 4), g 8, .slice A49 (y.l ++ [((lengthF Pq.1.fs).2, ([] : List UInt8), ([] : List UInt8), (0 : Int), (⟨none, 0, []⟩ : Vs (List UInt8 × List UInt8)), (⟨none, 0, []⟩ : Vs UInt8), false)]).length C50] 51 (0, 0))] :: H) [0, 5, 1] 6 rfl rfl ?_
              exact At.ret Tryz.func47 rfl rfl (.inr (.inl ⟨_, ⟨A49, C50, y.l ++ [((lengthF Pq.1.fs).2, ([] : List UInt8), ([] : List UInt8), (0 : Int), (⟨none, 0, []⟩ : Vs (List UInt8 × List UInt8)), (⟨none, 0, []⟩ : Vs UInt8), false)], s52, o53⟩, fun | 0 => g 0 | 1 => g 1 | 2 => g 2 | 3 => g 3 | 4 => g 4 | 5 => g 5 | 6 => g 6 | 7 => .int .i64 ((n : Int) + 4) | _ => g 8, hask, rfl, rfl, rfl⟩))
            · intro hc5
              have hc5 : ((lengthF Pq.1.fs).2 : Int) = 200 := of_decide_eq_true (bnot_false hc5)
              rw [if_neg (by first | assumption | omega | (simp; omega) | simpa using hc5)] at hask
              refine At.seq ?_
              refine At.region ?_
              refine AtL.move (.inl rfl) rfl rfl ?_
              refine AtL.lss (.inl rfl) rfl rfl rfl ?_
              refine AtL.move (.inl rfl) rfl rfl ?_
              refine AtL.join 4 (E' := [(81, .bool (decide ((((lengthF Pq.1.fs).1 : Int) < 0) ∧ (Pq.1.m = [80, 79, 83, 84])))), (0, .pointer (some ⟨r, 0, none⟩)), (4, .pointer (some ⟨b19, 0, none⟩)), (8, .int .i64 ((lengthF Pq.1.fs).1))]) (H' := [(b19, .cells #[str Pq.1.m, str Pq.1.t, .int .i64 Pq.1.minor, .slice Axs16 Pq.1.fs.length Cxs16] 47 (0, 0))] :: sxs16 :: s2 :: y.s :: x.s :: [(r, .cells #[.bool true, .slice x.A x.l.length x.C, .func (.func 47) #[.pointer (some ⟨r, 0, none⟩)] #[], g 0, g 1, g 2, g 3, g 4, g 5, g 6, .int .i64 ((n : Int) + 4), g 8, .slice y.A y.l.length y.C] 51 (0, 0))] :: H) (fun J => ?_) ?_
              · refine AtL.split (t := 77) rfl ?_ ?_
                · intro hs77
                  have hs77 : ((lengthF Pq.1.fs).1 : Int) < 0 := of_decide_eq_true hs77
                  refine AtL.fieldAddrB tf_fo47_0 (.inr ⟨_, _, _, rfl, rfl, rfl, rfl⟩) rfl rfl rfl ?_
                  refine AtL.load tf_flat9 (.inr ⟨_, _, _, rfl, rfl, rfl, rfl⟩) rfl rfl (Cell.own 0 0 rfl rfl rfl) ?_
                  refine AtL.eqs (a := Pq.1.m) (b := [80, 79, 83, 84]) (.inr ⟨_, _, _, rfl, rfl, rfl, rfl⟩) rfl rfl rfl ?_
                  refine AtL.pickT (.inl rfl) rfl rfl rfl ?_
                  exact J _ (by exact ⟨(boolIs (by clear J; first | (simp [hs77]; done) | (simp_all; done) | grind)), rfl, rfl, rfl, trivial⟩)
                · intro hs77
                  have hs77 : ¬ (((lengthF Pq.1.fs).1 : Int) < 0) := of_decide_eq_false hs77
                  refine AtL.skipped rfl rfl rfl rfl rfl rfl ?_
                  refine AtL.skipped rfl rfl rfl rfl rfl rfl ?_
                  refine AtL.skipped rfl rfl rfl rfl rfl rfl ?_
                  refine AtL.pickF (.inl rfl) rfl rfl rfl ?_
                  exact J _ (by exact ⟨(boolIs (by clear J; first | (simp [hs77]; done) | (simp_all; done) | grind)), rfl, rfl, rfl, trivial⟩)
              · skip
                refine AtL.assign (.inl rfl) rfl rfl ?_
                refine AtL.done ?_
                refine At.cond rfl ?_ ?_
                · intro hc6
                  have hc6 : (((lengthF Pq.1.fs).1 : Int) < 0) ∧ (Pq.1.m = [80, 79, 83, 84]) := of_decide_eq_true hc6
                  rw [if_pos (by first | assumption | omega | (simp; omega) | simpa using hc6)] at hask
                  refine At.seq ?_
                  refine At.region ?_
                  refine AtL.move (.inl rfl) rfl rfl ?_
                  refine AtL.pick (H' := y.s :: [(r, .cells #[.bool true, .slice x.A x.l.length x.C, .func (.func 47) #[.pointer (some ⟨r, 0, none⟩)] #[], g 0, g 1, g 2, g 3, g 4, g 5, g 6, .int .i64 ((n : Int) + 4), g 8, .slice y.A y.l.length y.C] 51 (0, 0))] :: [(b19, .cells #[str Pq.1.m, str Pq.1.t, .int .i64 Pq.1.minor, .slice Axs16 Pq.1.fs.length Cxs16] 47 (0, 0))] :: sxs16 :: s2 :: x.s :: H) [3, 5, 0, 1, 2, 4] 6 rfl rfl ?_
                  refine AtL.call tf_body75 (.inl rfl) rfl rfl (ends_ok14 (y := y) hyl 411) ?_
                  rintro _ _ ⟨⟨A55, C56, l57, s58, o59⟩, hx60, rfl, rfl⟩
                  obtain rfl : y.l ++ [(411, ([] : List UInt8), ([] : List UInt8), (0 : Int), (⟨none, 0, []⟩ : Vs (List UInt8 × List UInt8)), (⟨none, 0, []⟩ : Vs UInt8), false)] = l57 := hx60.symm
                  refine AtL.assign (.inl rfl) rfl rfl ?_
                  refine AtL.done ?_
                  refine At.pick (H' := s58 :: x.s :: [(r, .cells #[.bool true, .slice none 0 0, .nilFunc, g 0, g 1, g 2, g 3, g 4, g 5, g 6, .int .i64 ((n : Int) + 4), g 8, .slice A55 (y.l ++ [(411, ([] : List UInt8), ([] : List UInt8), (0 : Int), (⟨none, 0, []⟩ : Vs (List UInt8 × List UInt8)), (⟨none, 0, []⟩ : Vs UInt8), false)]).length C56] 51 (0, 0))] :: H) [0, 5, 1] 6 rfl rfl ?_
                  exact At.ret Tryz.func47 rfl rfl (.inr (.inl ⟨_, ⟨A55, C56, y.l ++ [(411, ([] : List UInt8), ([] : List UInt8), (0 : Int), (⟨none, 0, []⟩ : Vs (List UInt8 × List UInt8)), (⟨none, 0, []⟩ : Vs UInt8), false)], s58, o59⟩, fun | 0 => g 0 | 1 => g 1 | 2 => g 2 | 3 => g 3 | 4 => g 4 | 5 => g 5 | 6 => g 6 | 7 => .int .i64 ((n : Int) + 4) | _ => g 8, hask, rfl, rfl, rfl⟩))
                · intro hc6
                  have hc6 : ¬ ((((lengthF Pq.1.fs).1 : Int) < 0) ∧ (Pq.1.m = [80, 79, 83, 84])) := of_decide_eq_false hc6
                  rw [if_neg (by first | assumption | omega | (simp; omega) | simpa using hc6)] at hask
                  refine At.skip ?_
                  refine At.inBlock ?_
                  refine At.seq ?_
                  refine At.region ?_
                  refine AtL.move (.inl rfl) rfl rfl ?_
                  refine AtL.move (.inl rfl) rfl rfl ?_
                  refine AtL.maxZ (z := max ((lengthF Pq.1.fs).1) 0) (.inl rfl) rfl rfl rfl (by omega) ?_
                  refine AtL.nilCheck (.inl rfl) rfl rfl ?_
                  refine AtL.fieldAddrB tf_fo51_5 (.inl rfl) rfl rfl rfl ?_
                  refine AtL.store (H' := [(b19, .cells #[str Pq.1.m, str Pq.1.t, .int .i64 Pq.1.minor, .slice Axs16 Pq.1.fs.length Cxs16] 47 (0, 0))] :: sxs16 :: s2 :: y.s :: x.s :: [(r, .cells #[.bool true, .slice x.A x.l.length x.C, .func (.func 47) #[.pointer (some ⟨r, 0, none⟩)] #[], g 0, g 1, g 2, g 3, g 4, g 5, g 6, .int .i64 ((n : Int) + 4), .int .i64 (max ((lengthF Pq.1.fs).1) 0), .slice y.A y.l.length y.C] 51 (0, 0))] :: H) 5 0 tf_sz3 (.inl rfl) rfl rfl rfl rfl rfl rfl rfl rfl rfl ?_
                  refine AtL.done ?_
                  rw [show max (lengthF Pq.1.fs).1 0 = (((lengthF Pq.1.fs).1.toNat : Nat) : Int) by omega]
                  refine At.seq ?_
                  refine At.draw (es := [7]) (pv := [(0, .pointer (some ⟨r, 0, none⟩)), (1, .agg #[str Pq.1.m, str Pq.1.t, .int .i64 Pq.1.minor, .slice Axs16 Pq.1.fs.length Cxs16]), (2, .agg #[str Pq.1.m, str Pq.1.t, .int .i64 Pq.1.minor, .slice Axs16 Pq.1.fs.length Cxs16]), (3, .bool (keepF Pq.1.fs Pq.1.minor)), (4, .agg #[.int .i64 200, str Pq.1.m, str Pq.1.t, .int .i64 Pq.1.minor, .slice Axs16 Pq.1.fs.length Cxs16, .slice none 0 0, .bool (keepF Pq.1.fs Pq.1.minor)]), (5, .pointer (some ⟨r, 0, none⟩)), (6, .pointer (some ⟨r, 3, none⟩))]) tf_mixed (by kernel_rfl) (by kernel_rfl) (by kernel_rfl) ?_
                  refine ⟨⟨.inr ⟨_, rfl, rfl, .inl ⟨rfl, Do.move rfl⟩⟩, .inr ⟨_, rfl, rfl, .inl ⟨rfl, Do.loadN (cs := [str Pq.1.m, str Pq.1.t, .int .i64 Pq.1.minor, .slice Axs16 Pq.1.fs.length Cxs16]) tf_agg47 rfl rfl (cellsOwn 0 0 0 rfl rfl rfl)⟩⟩, .inr ⟨_, rfl, rfl, .inl ⟨rfl, Do.loadN (cs := [str Pq.1.m, str Pq.1.t, .int .i64 Pq.1.minor, .slice Axs16 Pq.1.fs.length Cxs16]) tf_agg47 rfl rfl (cellsOwn 0 0 0 rfl rfl rfl)⟩⟩, .inr ⟨_, rfl, rfl, .inl ⟨rfl, Do.call tf_body78 rfl (keep_ok (m := Pq.1.m) (t := Pq.1.t) (minor := Pq.1.minor) (fs := Pq.1.fs) (oxs16.rd (i := 1) rfl) hfl hb hb4 T)⟩⟩, .inr ⟨_, rfl, rfl, .inl ⟨rfl, Do.build (cs := [.int .i64 200, str Pq.1.m, str Pq.1.t, .int .i64 Pq.1.minor, .slice Axs16 Pq.1.fs.length Cxs16, .slice none 0 0, .bool (keepF Pq.1.fs Pq.1.minor)]) tf_lay49 rfl rfl⟩⟩, .inr ⟨_, rfl, rfl, .inl ⟨rfl, Do.nilCheck rfl⟩⟩, .inr ⟨_, rfl, rfl, .inl ⟨rfl, Do.fieldAddrB tf_fo51_3 rfl rfl⟩⟩, trivial⟩, rfl, rfl, by kernel_rfl, _, rfl, rfl, rfl, _, Do.store (H' := [(b19, .cells #[str Pq.1.m, str Pq.1.t, .int .i64 Pq.1.minor, .slice Axs16 Pq.1.fs.length Cxs16] 47 (0, 0))] :: sxs16 :: s2 :: y.s :: x.s :: [(r, .cells #[.bool true, .slice x.A x.l.length x.C, .func (.func 47) #[.pointer (some ⟨r, 0, none⟩)] #[], .int .i64 200, str Pq.1.m, str Pq.1.t, .int .i64 Pq.1.minor, .slice Axs16 Pq.1.fs.length Cxs16, .slice none 0 0, .bool (keepF Pq.1.fs Pq.1.minor), .int .i64 ((n : Int) + 4), .int .i64 ((lengthF Pq.1.fs).1.toNat : Int), .slice y.A y.l.length y.C] 51 (0, 0))] :: H) 5 0 tf_sz49 rfl rfl rfl rfl rfl rfl rfl rfl rfl, ?_⟩
                  rintro _ _ ⟨rfl, rfl⟩
                  refine ⟨[], rfl, ?_⟩
                  refine ⟨⟨.inl (by kernel_rfl), .inl (by kernel_rfl), .inl (by kernel_rfl), .inl (by kernel_rfl), .inl (by kernel_rfl), .inl (by kernel_rfl), .inl (by kernel_rfl), trivial⟩, by kernel_rfl, ?_⟩
                  refine At.mono (E' := [(0, .pointer (some ⟨r, 0, none⟩))]) ⟨rfl, trivial⟩ ?_
                  refine At.seq ?_
                  refine At.region ?_
                  refine AtL.move (.inl rfl) rfl rfl ?_
                  refine AtL.move (.inl rfl) rfl rfl ?_
                  refine AtL.makeFunc (.inl rfl) rfl rfl rfl ?_
                  refine AtL.nilCheck (.inl rfl) rfl rfl ?_
                  refine AtL.fieldAddrB tf_fo51_2 (.inl rfl) rfl rfl rfl ?_
                  refine AtL.store (H' := [(b19, .cells #[str Pq.1.m, str Pq.1.t, .int .i64 Pq.1.minor, .slice Axs16 Pq.1.fs.length Cxs16] 47 (0, 0))] :: sxs16 :: s2 :: y.s :: x.s :: [(r, .cells #[.bool true, .slice x.A x.l.length x.C, .func (.func 79) #[.pointer (some ⟨r, 0, none⟩)] #[], .int .i64 200, str Pq.1.m, str Pq.1.t, .int .i64 Pq.1.minor, .slice Axs16 Pq.1.fs.length Cxs16, .slice none 0 0, .bool (keepF Pq.1.fs Pq.1.minor), .int .i64 ((n : Int) + 4), .int .i64 ((lengthF Pq.1.fs).1.toNat : Int), .slice y.A y.l.length y.C] 51 (0, 0))] :: H) 5 0 tf_sz23 (.inl rfl) rfl rfl rfl rfl rfl rfl rfl rfl rfl ?_
                  refine AtL.done ?_
                  refine At.seq ?_
                  refine At.region ?_
                  refine AtL.assign (.inl rfl) rfl rfl ?_
                  refine AtL.done ?_
                  refine At.pick (H' := sxs16 :: y.s :: x.s :: [(r, .cells #[.bool true, .slice x.A x.l.length x.C, .func (.func 79) #[.pointer (some ⟨r, 0, none⟩)] #[], .int .i64 200, str Pq.1.m, str Pq.1.t, .int .i64 Pq.1.minor, .slice Axs16 Pq.1.fs.length Cxs16, .slice none 0 0, .bool (keepF Pq.1.fs Pq.1.minor), .int .i64 ((n : Int) + 4), .int .i64 ((lengthF Pq.1.fs).1.toNat : Int), .slice y.A y.l.length y.C] 51 (0, 0))] :: H) [1, 3, 4, 5] 6 rfl rfl ?_
                  exact At.ret Tryz.func47 rfl rfl (.inr (.inr ⟨_, _, _, ⟨Axs16, Cxs16, Pq.1.fs, sxs16, oxs16⟩, _, n + 4, (lengthF Pq.1.fs).1.toNat, hask, rfl, rfl⟩))
end Go.Proofs.YtlkdmbpbjhjkfaaGreatDoor
namespace Go.Proofs.YtlkdmbpbjhjkfaaGreatDoor
set_option linter.unusedVariables false
set_option linter.unusedSimpArgs false
set_option maxRecDepth 100000
theorem subl_mid (l : List UInt8) (a b : Nat) : subl l a (a + b) = (l.drop a).take b := by
  rw [subl]; first | (rw [Nat.add_sub_cancel_left]) | (simp [List.drop_take]) | (simp [List.take_drop])
set_option maxHeartbeats 1000000 in
theorem rdrest_ok {w0 : World} {base : Nat} {H : List Seg} {r : Nat} {x : Sl tyB 5} {y : Sl tyItem 49} {m t : List UInt8} {minor : Int} {f : Sl tyField 78} {keep : Bool} {long body : Nat} {g : Nat → Value} (hyl : y.l.length ≤ 1000000) (hxl : x.l.length ≤ 4294967280) (hlo : long ≤ x.l.length) (hbo : body ≤ 4294967280) :
    SCalls Tryz.prog 79 [.pointer (some ⟨r, 0, none⟩)] w0 base (f.s :: y.s :: x.s :: [(r, .cells #[.bool true, .slice x.A x.l.length x.C, .func (.func 79) #[.pointer (some ⟨r, 0, none⟩)] #[], .int .i64 200, str m, str t, .int .i64 minor, .slice f.A f.l.length f.C, .slice none 0 0, .bool keep, .int .i64 (long : Int), .int .i64 (body : Int), .slice y.A y.l.length y.C] 51 (0, 0))] :: H) (fun v H' => (x.l.length < long + body ∧ v = .bool false ∧ H' = f.s :: y.s :: x.s :: rdC r (.rest m t minor f keep long body) x (.slice y.A y.l.length y.C) g :: H) ∨ (¬ x.l.length < long + body ∧ ∃ (z : Sl tyB 5) (y' : Sl tyItem 49) (x' : Sl tyB 5) (g' : Nat → Value), z.l = (x.l.drop long).take body ∧ y'.l = y.l ++ [(200, m, t, minor, f.v, z.v, keep)] ∧ ((keep = true ∧ x'.l = x.l.drop (long + body) ∧ v = .bool true ∧ H' = z.s :: f.s :: y'.s :: x'.s :: rdC r .head x' (.slice y'.A y'.l.length y'.C) g' :: H) ∨ (keep = false ∧ v = .bool false ∧ H' = z.s :: f.s :: y'.s :: x'.s :: rdC r .over x' (.slice y'.A y'.l.length y'.C) g' :: H)))) := by
  have hcapx := Own.cap_le x.own
  have hcapy := Own.cap_le y.own
  refine SCalls.of_walk (n := 85) Tryz.func79 rfl rfl rfl fun cs => ?_
  refine At.seq ?_
  refine At.region ?_
  refine AtL.assign (.inl rfl) rfl rfl ?_
  refine AtL.done ?_
  refine At.seq ?_
  refine At.seq ?_
  refine At.draw (es := []) (pv := [(0, .pointer (some ⟨r, 0, none⟩)), (1, .pointer (some ⟨r, 0, none⟩)), (2, .pointer (some ⟨r, 1, none⟩)), (3, .slice x.A x.l.length x.C), (4, .int .i64 (x.l.length : Int)), (5, .pointer (some ⟨r, 0, none⟩)), (6, .pointer (some ⟨r, 0, none⟩)), (7, .pointer (some ⟨r, 10, none⟩)), (8, .int .i64 (long : Int)), (9, .int .i64 ((x.l.length : Int) - (long : Int))), (10, .pointer (some ⟨r, 0, none⟩)), (11, .pointer (some ⟨r, 0, none⟩)), (12, .pointer (some ⟨r, 11, none⟩)), (13, .int .i64 (body : Int)), (14, .bool (decide (((x.l.length : Int) - (long : Int)) < (body : Int))))]) tf_mixed (by kernel_rfl) (by kernel_rfl) (by kernel_rfl) ?_
  refine ⟨⟨.inr ⟨_, rfl, rfl, .inl ⟨rfl, Do.move rfl⟩⟩, .inr ⟨_, rfl, rfl, .inl ⟨rfl, Do.nilCheck rfl⟩⟩, .inr ⟨_, rfl, rfl, .inl ⟨rfl, Do.fieldAddrB tf_fo51_1 rfl rfl⟩⟩, .inr ⟨_, rfl, rfl, .inl ⟨rfl, Do.load tf_flat22 rfl (Cell.own 3 0 rfl rfl rfl)⟩⟩, .inr ⟨_, rfl, rfl, .inl ⟨rfl, Do.lenL Tryz.underlying22 rfl⟩⟩, .inr ⟨_, rfl, rfl, .inl ⟨rfl, Do.move rfl⟩⟩, .inr ⟨_, rfl, rfl, .inl ⟨rfl, Do.nilCheck rfl⟩⟩, .inr ⟨_, rfl, rfl, .inl ⟨rfl, Do.fieldAddrB tf_fo51_4 rfl rfl⟩⟩, .inr ⟨_, rfl, rfl, .inl ⟨rfl, Do.load tf_flat3 rfl (Cell.own 3 0 rfl rfl rfl)⟩⟩, .inr ⟨_, rfl, rfl, .inl ⟨rfl, Do.sub (z := (x.l.length : Int) - (long : Int)) rfl rfl (w64 (by omega) (by omega))⟩⟩, .inr ⟨_, rfl, rfl, .inl ⟨rfl, Do.move rfl⟩⟩, .inr ⟨_, rfl, rfl, .inl ⟨rfl, Do.nilCheck rfl⟩⟩, .inr ⟨_, rfl, rfl, .inl ⟨rfl, Do.fieldAddrB tf_fo51_5 rfl rfl⟩⟩, .inr ⟨_, rfl, rfl, .inl ⟨rfl, Do.load tf_flat3 rfl (Cell.own 3 0 rfl rfl rfl)⟩⟩, .inr ⟨_, rfl, rfl, .inl ⟨rfl, Do.lss rfl rfl⟩⟩, trivial⟩, by kernel_rfl, ?_⟩
  refine At.mono (E' := [(0, .pointer (some ⟨r, 0, none⟩)), (17, .bool (decide (((x.l.length : Int) - (long : Int)) < (body : Int))))]) ⟨rfl, rfl, trivial⟩ ?_
  refine At.cond rfl ?_ ?_
  · intro hc1
    have hc1 : ((x.l.length : Int) - (long : Int)) < (body : Int) := of_decide_eq_true hc1
    refine At.seq ?_
    refine At.region ?_
    refine AtL.assign (.inl rfl) rfl rfl ?_
    refine AtL.done ?_
    exact At.ret Tryz.func79 rfl rfl (.inl ⟨by omega, rfl, rfl⟩)
  · intro hc1
    have hc1 : ¬ (((x.l.length : Int) - (long : Int)) < (body : Int)) := of_decide_eq_false hc1
    refine At.skip ?_
    refine At.seq ?_
    have hleo3 := Own.le_cap x.own
    obtain ⟨A1, eA1⟩ : ∃ A1 : Option Addr, A1 = (if x.C = long then x.A else Option.map (fun a => a.add (long * tyB.sz)) x.A) := ⟨_, rfl⟩
    obtain ⟨C2, eC2⟩ : ∃ C2 : Nat, C2 = x.C - long := ⟨_, rfl⟩
    have o3 : Own tyB 5 A1 C2 (subl x.l long (long + body)) x.s := by rw [eA1, eC2]; exact Own.cut x.own (by omega) (by omega) (by omega) (by omega)
    refine At.draw (es := [19, 23]) (pv := [(0, .pointer (some ⟨r, 0, none⟩)), (1, .pointer (some ⟨r, 0, none⟩)), (2, .pointer (some ⟨r, 0, none⟩)), (3, .pointer (some ⟨r, 1, none⟩)), (4, .slice x.A x.l.length x.C), (5, .pointer (some ⟨r, 0, none⟩)), (6, .pointer (some ⟨r, 0, none⟩)), (7, .pointer (some ⟨r, 10, none⟩)), (8, .int .i64 (long : Int)), (9, .pointer (some ⟨r, 0, none⟩)), (10, .pointer (some ⟨r, 0, none⟩)), (11, .pointer (some ⟨r, 10, none⟩)), (12, .int .i64 (long : Int)), (13, .pointer (some ⟨r, 0, none⟩)), (14, .pointer (some ⟨r, 0, none⟩)), (15, .pointer (some ⟨r, 11, none⟩)), (16, .int .i64 (body : Int)), (17, .int .i64 ((long : Int) + (body : Int))), (18, .slice A1 (subl x.l long (long + body)).length C2)]) tf_mixed (by kernel_rfl) (by kernel_rfl) (by kernel_rfl) ?_
    refine ⟨⟨.inr ⟨_, rfl, rfl, .inl ⟨rfl, Do.move rfl⟩⟩, .inr ⟨_, rfl, rfl, .inl ⟨rfl, Do.move rfl⟩⟩, .inr ⟨_, rfl, rfl, .inl ⟨rfl, Do.nilCheck rfl⟩⟩, .inr ⟨_, rfl, rfl, .inl ⟨rfl, Do.fieldAddrB tf_fo51_1 rfl rfl⟩⟩, .inr ⟨_, rfl, rfl, .inl ⟨rfl, Do.load tf_flat22 rfl (Cell.own 3 0 rfl rfl rfl)⟩⟩, .inr ⟨_, rfl, rfl, .inl ⟨rfl, Do.move rfl⟩⟩, .inr ⟨_, rfl, rfl, .inl ⟨rfl, Do.nilCheck rfl⟩⟩, .inr ⟨_, rfl, rfl, .inl ⟨rfl, Do.fieldAddrB tf_fo51_4 rfl rfl⟩⟩, .inr ⟨_, rfl, rfl, .inl ⟨rfl, Do.load tf_flat3 rfl (Cell.own 3 0 rfl rfl rfl)⟩⟩, .inr ⟨_, rfl, rfl, .inl ⟨rfl, Do.move rfl⟩⟩, .inr ⟨_, rfl, rfl, .inl ⟨rfl, Do.nilCheck rfl⟩⟩, .inr ⟨_, rfl, rfl, .inl ⟨rfl, Do.fieldAddrB tf_fo51_4 rfl rfl⟩⟩, .inr ⟨_, rfl, rfl, .inl ⟨rfl, Do.load tf_flat3 rfl (Cell.own 3 0 rfl rfl rfl)⟩⟩, .inr ⟨_, rfl, rfl, .inl ⟨rfl, Do.move rfl⟩⟩, .inr ⟨_, rfl, rfl, .inl ⟨rfl, Do.nilCheck rfl⟩⟩, .inr ⟨_, rfl, rfl, .inl ⟨rfl, Do.fieldAddrB tf_fo51_5 rfl rfl⟩⟩, .inr ⟨_, rfl, rfl, .inl ⟨rfl, Do.load tf_flat3 rfl (Cell.own 3 0 rfl rfl rfl)⟩⟩, .inr ⟨_, rfl, rfl, .inl ⟨rfl, Do.add (z := (long : Int) + (body : Int)) rfl rfl (w64 (by omega) (by omega))⟩⟩, .inr ⟨_, rfl, rfl, .inl ⟨rfl, Do.sliceX_ (T := tyB) (l := x.l) long (long + body) x.C (evBound_some rfl rfl) (evBound_some rfl rfl) rfl (by intro h; cases h) (by omega) (by omega) (Nat.le_refl _) Tryz.underlying22 tf_sz5 rfl eA1 (subl_len (l := x.l) (i := long) (j := (long + body)) (by omega)) eC2⟩⟩, trivial⟩, rfl, rfl, by kernel_rfl, _, rfl, rfl, rfl, _, Do.call tf_body95 rfl (hclone_ok (l := subl x.l long (long + body)) (o3.rd (i := 2) rfl) (by rw [subl_len (by omega)]; omega)), ?_⟩
    rintro _ _ ⟨⟨A4, C5, l6, s7, o8⟩, hx9, rfl, rfl⟩
    obtain rfl : subl x.l long (long + body) = l6 := hx9.symm
    refine ⟨[(20, .pointer (some ⟨r, 0, none⟩)), (21, .pointer (some ⟨r, 3, none⟩)), (22, .pointer (some ⟨r, 8, none⟩))], rfl, ?_⟩
    refine ⟨⟨.inr ⟨_, rfl, rfl, .inl ⟨rfl, Do.nilCheck rfl⟩⟩, .inr ⟨_, rfl, rfl, .inl ⟨rfl, Do.fieldAddrB tf_fo51_3 rfl rfl⟩⟩, .inr ⟨_, rfl, rfl, .inl ⟨rfl, Do.fieldAddrB tf_fo49_2 rfl rfl⟩⟩, .inr ⟨_, rfl, rfl, .inl ⟨rfl, Do.move rfl⟩⟩, .inl (by kernel_rfl), .inl (by kernel_rfl), .inl (by kernel_rfl), .inl (by kernel_rfl), .inl (by kernel_rfl), .inl (by kernel_rfl), .inl (by kernel_rfl), .inl (by kernel_rfl), .inl (by kernel_rfl), .inl (by kernel_rfl), .inl (by kernel_rfl), .inl (by kernel_rfl), .inl (by kernel_rfl), .inl (by kernel_rfl), .inl (by kernel_rfl), .inl (by kernel_rfl), .inl (by kernel_rfl), .inl (by kernel_rfl), trivial⟩, rfl, rfl, by kernel_rfl, _, rfl, rfl, rfl, _, Do.store (H' := s7 :: f.s :: y.s :: x.s :: [(r, .cells #[.bool true, .slice x.A x.l.length x.C, .func (.func 79) #[.pointer (some ⟨r, 0, none⟩)] #[], .int .i64 200, str m, str t, .int .i64 minor, .slice f.A f.l.length f.C, .slice A4 (subl x.l long (long + body)).length C5, .bool keep, .int .i64 (long : Int), .int .i64 (body : Int), .slice y.A y.l.length y.C] 51 (0, 0))] :: H) 4 0 tf_sz22 rfl rfl rfl rfl rfl rfl rfl rfl rfl, ?_⟩
    rintro _ _ ⟨rfl, rfl⟩
    refine ⟨[], rfl, ?_⟩
    refine ⟨⟨.inl (by kernel_rfl), .inl (by kernel_rfl), .inl (by kernel_rfl), .inl (by kernel_rfl), .inl (by kernel_rfl), .inl (by kernel_rfl), .inl (by kernel_rfl), .inl (by kernel_rfl), .inl (by kernel_rfl), .inl (by kernel_rfl), .inl (by kernel_rfl), .inl (by kernel_rfl), .inl (by kernel_rfl), .inl (by kernel_rfl), .inl (by kernel_rfl), .inl (by kernel_rfl), .inl (by kernel_rfl), .inl (by kernel_rfl), .inl (by kernel_rfl), .inl (by kernel_rfl), .inl (by kernel_rfl), .inl (by kernel_rfl), trivial⟩, by kernel_rfl, ?_⟩
    refine At.mono (E' := [(0, .pointer (some ⟨r, 0, none⟩))]) ⟨rfl, trivial⟩ ?_
    refine At.seq ?_
    have hleo18 := Own.le_cap x.own
    obtain ⟨A16, eA16⟩ : ∃ A16 : Option Addr, A16 = (if x.C = (long + body) then x.A else Option.map (fun a => a.add ((long + body) * tyB.sz)) x.A) := ⟨_, rfl⟩
    obtain ⟨C17, eC17⟩ : ∃ C17 : Nat, C17 = x.C - (long + body) := ⟨_, rfl⟩
    have o18 : Own tyB 5 A16 C17 (subl x.l (long + body) x.l.length) x.s := by rw [eA16, eC17]; exact Own.cut x.own (by omega) (by omega) (by omega) (by omega)
    refine At.draw (es := [15, 18]) (pv := [(0, .pointer (some ⟨r, 0, none⟩)), (1, .pointer (some ⟨r, 0, none⟩)), (2, .pointer (some ⟨r, 0, none⟩)), (3, .pointer (some ⟨r, 1, none⟩)), (4, .slice x.A x.l.length x.C), (5, .pointer (some ⟨r, 0, none⟩)), (6, .pointer (some ⟨r, 0, none⟩)), (7, .pointer (some ⟨r, 10, none⟩)), (8, .int .i64 (long : Int)), (9, .pointer (some ⟨r, 0, none⟩)), (10, .pointer (some ⟨r, 0, none⟩)), (11, .pointer (some ⟨r, 11, none⟩)), (12, .int .i64 (body : Int)), (13, .int .i64 ((long : Int) + (body : Int))), (14, .slice A16 (subl x.l (long + body) x.l.length).length C17)]) tf_mixed (by kernel_rfl) (by kernel_rfl) (by kernel_rfl) ?_
    refine ⟨⟨.inr ⟨_, rfl, rfl, .inl ⟨rfl, Do.move rfl⟩⟩, .inr ⟨_, rfl, rfl, .inl ⟨rfl, Do.move rfl⟩⟩, .inr ⟨_, rfl, rfl, .inl ⟨rfl, Do.nilCheck rfl⟩⟩, .inr ⟨_, rfl, rfl, .inl ⟨rfl, Do.fieldAddrB tf_fo51_1 rfl rfl⟩⟩, .inr ⟨_, rfl, rfl, .inl ⟨rfl, Do.load tf_flat22 rfl (Cell.own 4 0 rfl rfl rfl)⟩⟩, .inr ⟨_, rfl, rfl, .inl ⟨rfl, Do.move rfl⟩⟩, .inr ⟨_, rfl, rfl, .inl ⟨rfl, Do.nilCheck rfl⟩⟩, .inr ⟨_, rfl, rfl, .inl ⟨rfl, Do.fieldAddrB tf_fo51_4 rfl rfl⟩⟩, .inr ⟨_, rfl, rfl, .inl ⟨rfl, Do.load tf_flat3 rfl (Cell.own 4 0 rfl rfl rfl)⟩⟩, .inr ⟨_, rfl, rfl, .inl ⟨rfl, Do.move rfl⟩⟩, .inr ⟨_, rfl, rfl, .inl ⟨rfl, Do.nilCheck rfl⟩⟩, .inr ⟨_, rfl, rfl, .inl ⟨rfl, Do.fieldAddrB tf_fo51_5 rfl rfl⟩⟩, .inr ⟨_, rfl, rfl, .inl ⟨rfl, Do.load tf_flat3 rfl (Cell.own 4 0 rfl rfl rfl)⟩⟩, .inr ⟨_, rfl, rfl, .inl ⟨rfl, Do.add (z := (long : Int) + (body : Int)) rfl rfl (w64 (by omega) (by omega))⟩⟩, .inr ⟨_, rfl, rfl, .inl ⟨rfl, Do.sliceX_ (T := tyB) (l := x.l) (long + body) x.l.length x.C (evBound_some rfl rfl) rfl rfl (by intro h; cases h) (by omega) (by omega) (Nat.le_refl _) Tryz.underlying22 tf_sz5 rfl eA16 (subl_len (l := x.l) (i := (long + body)) (j := x.l.length) (by omega)) eC17⟩⟩, trivial⟩, rfl, rfl, by kernel_rfl, _, rfl, rfl, rfl, _, Do.call tf_body95 rfl (hclone_ok (l := subl x.l (long + body) x.l.length) (o18.rd (i := 3) rfl) (by rw [subl_len (by omega)]; omega)), ?_⟩
    rintro _ _ ⟨⟨A19, C20, l21, s22, o23⟩, hx24, rfl, rfl⟩
    obtain rfl : subl x.l (long + body) x.l.length = l21 := hx24.symm
    refine ⟨[(16, .pointer (some ⟨r, 0, none⟩)), (17, .pointer (some ⟨r, 1, none⟩))], rfl, ?_⟩
    refine ⟨⟨.inr ⟨_, rfl, rfl, .inl ⟨rfl, Do.nilCheck rfl⟩⟩, .inr ⟨_, rfl, rfl, .inl ⟨rfl, Do.fieldAddrB tf_fo51_1 rfl rfl⟩⟩, .inr ⟨_, rfl, rfl, .inl ⟨rfl, Do.move rfl⟩⟩, .inl (by kernel_rfl), .inl (by kernel_rfl), .inl (by kernel_rfl), .inl (by kernel_rfl), .inl (by kernel_rfl), .inl (by kernel_rfl), .inl (by kernel_rfl), .inl (by kernel_rfl), .inl (by kernel_rfl), .inl (by kernel_rfl), .inl (by kernel_rfl), .inl (by kernel_rfl), .inl (by kernel_rfl), .inl (by kernel_rfl), trivial⟩, rfl, rfl, by kernel_rfl, _, rfl, rfl, rfl, _, Do.store (H' := s22 :: s7 :: f.s :: y.s :: x.s :: [(r, .cells #[.bool true, .slice A19 (subl x.l (long + body) x.l.length).length C20, .func (.func 79) #[.pointer (some ⟨r, 0, none⟩)] #[], .int .i64 200, str m, str t, .int .i64 minor, .slice f.A f.l.length f.C, .slice A4 (subl x.l long (long + body)).length C5, .bool keep, .int .i64 (long : Int), .int .i64 (body : Int), .slice y.A y.l.length y.C] 51 (0, 0))] :: H) 5 0 tf_sz22 rfl rfl rfl rfl rfl rfl rfl rfl rfl, ?_⟩
    rintro _ _ ⟨rfl, rfl⟩
    refine ⟨[], rfl, ?_⟩
    refine ⟨⟨.inl (by kernel_rfl), .inl (by kernel_rfl), .inl (by kernel_rfl), .inl (by kernel_rfl), .inl (by kernel_rfl), .inl (by kernel_rfl), .inl (by kernel_rfl), .inl (by kernel_rfl), .inl (by kernel_rfl), .inl (by kernel_rfl), .inl (by kernel_rfl), .inl (by kernel_rfl), .inl (by kernel_rfl), .inl (by kernel_rfl), .inl (by kernel_rfl), .inl (by kernel_rfl), .inl (by kernel_rfl), trivial⟩, by kernel_rfl, ?_⟩
    refine At.mono (E' := [(0, .pointer (some ⟨r, 0, none⟩))]) ⟨rfl, trivial⟩ ?_
    refine At.seq ?_
    refine At.draw (es := [9, 10, 13]) (pv := [(0, .pointer (some ⟨r, 0, none⟩)), (1, .pointer (some ⟨r, 0, none⟩)), (2, .pointer (some ⟨r, 0, none⟩)), (3, .pointer (some ⟨r, 12, none⟩)), (4, .slice y.A y.l.length y.C), (5, .pointer (some ⟨r, 0, none⟩)), (6, .pointer (some ⟨r, 0, none⟩)), (7, .pointer (some ⟨r, 3, none⟩)), (8, .agg #[.int .i64 200, str m, str t, .int .i64 minor, .slice f.A f.l.length f.C, .slice A4 (subl x.l long (long + body)).length C5, .bool keep])]) tf_mixed (by kernel_rfl) (by kernel_rfl) (by kernel_rfl) ?_
    refine ⟨⟨.inr ⟨_, rfl, rfl, .inl ⟨rfl, Do.move rfl⟩⟩, .inr ⟨_, rfl, rfl, .inl ⟨rfl, Do.move rfl⟩⟩, .inr ⟨_, rfl, rfl, .inl ⟨rfl, Do.nilCheck rfl⟩⟩, .inr ⟨_, rfl, rfl, .inl ⟨rfl, Do.fieldAddrB tf_fo51_6 rfl rfl⟩⟩, .inr ⟨_, rfl, rfl, .inl ⟨rfl, Do.load tf_flat40 rfl (Cell.own 5 0 rfl rfl rfl)⟩⟩, .inr ⟨_, rfl, rfl, .inl ⟨rfl, Do.move rfl⟩⟩, .inr ⟨_, rfl, rfl, .inl ⟨rfl, Do.nilCheck rfl⟩⟩, .inr ⟨_, rfl, rfl, .inl ⟨rfl, Do.fieldAddrB tf_fo51_3 rfl rfl⟩⟩, .inr ⟨_, rfl, rfl, .inl ⟨rfl, Do.loadN (cs := [.int .i64 200, str m, str t, .int .i64 minor, .slice f.A f.l.length f.C, .slice A4 (subl x.l long (long + body)).length C5, .bool keep]) tf_agg49 rfl rfl (cellsOwn 5 0 3 rfl rfl rfl)⟩⟩, trivial⟩, rfl, rfl, by kernel_rfl, _, rfl, rfl, rfl, _, Do.own1 tyItem (l := ([((200 : Int), (m : List UInt8), (t : List UInt8), (minor : Int), (⟨f.A, f.C, f.l⟩ : Vs (List UInt8 × List UInt8)), (⟨A4, C5, subl x.l long (long + body)⟩ : Vs UInt8), keep)] : List (Int × List UInt8 × List UInt8 × Int × Vs (List UInt8 × List UInt8) × Vs UInt8 × Bool))) (Do.buildSlice (cs := [.int .i64 200, str m, str t, .int .i64 minor, .slice f.A f.l.length f.C, .slice A4 (subl x.l long (long + body)).length C5, .bool keep]) Tryz.underlying40 tf_zero49 tf_sz49 rfl rfl rfl rfl) rfl rfl (by first | decide | simp), ?_⟩
    rintro _ _ ⟨b31, s32, o33, rfl, rfl⟩
    refine ⟨[], rfl, ?_⟩
    refine ⟨⟨.inr ⟨_, rfl, rfl, .inl ⟨rfl, Do.move rfl⟩⟩, .inr ⟨_, rfl, rfl, .inl ⟨rfl, Do.move rfl⟩⟩, .inr ⟨_, rfl, rfl, .inl ⟨rfl, Do.nilCheck rfl⟩⟩, .inr ⟨_, rfl, rfl, .inl ⟨rfl, Do.fieldAddrB tf_fo51_6 rfl rfl⟩⟩, .inr ⟨_, rfl, rfl, .inl ⟨rfl, Do.load tf_flat40 rfl (Cell.own 6 0 rfl rfl rfl)⟩⟩, .inl (by kernel_rfl), .inl (by kernel_rfl), .inl (by kernel_rfl), .inl (by kernel_rfl), trivial⟩, rfl, rfl, by kernel_rfl, _, rfl, rfl, rfl, _, Do.append (l := y.l) (news := [((200 : Int), (m : List UInt8), (t : List UInt8), (minor : Int), (⟨f.A, f.C, f.l⟩ : Vs (List UInt8 × List UInt8)), (⟨A4, C5, subl x.l long (long + body)⟩ : Vs UInt8), keep)]) 4 tf_el40 rfl y.own (o33.rd (i := 0) rfl) (by first | omega | (simp only [List.length_append, List.length_cons, List.length_nil]; omega) | (simp; done) | (simp; omega)) rfl rfl, ?_⟩
    rintro _ _ ⟨A34, C35, s36, o37, rfl, rfl⟩
    refine ⟨[(11, .pointer (some ⟨r, 0, none⟩)), (12, .pointer (some ⟨r, 12, none⟩))], rfl, ?_⟩
    refine ⟨⟨.inr ⟨_, rfl, rfl, .inl ⟨rfl, Do.nilCheck rfl⟩⟩, .inr ⟨_, rfl, rfl, .inl ⟨rfl, Do.fieldAddrB tf_fo51_6 rfl rfl⟩⟩, .inr ⟨_, rfl, rfl, .inl ⟨rfl, Do.move rfl⟩⟩, .inl (by kernel_rfl), .inl (by kernel_rfl), .inl (by kernel_rfl), .inl (by kernel_rfl), .inl (by kernel_rfl), .inl (by kernel_rfl), .inl (by kernel_rfl), .inl (by kernel_rfl), trivial⟩, rfl, rfl, by kernel_rfl, _, rfl, rfl, rfl, _, Do.store (H' := s32 :: s22 :: s7 :: f.s :: s36 :: x.s :: [(r, .cells #[.bool true, .slice A19 (subl x.l (long + body) x.l.length).length C20, .func (.func 79) #[.pointer (some ⟨r, 0, none⟩)] #[], .int .i64 200, str m, str t, .int .i64 minor, .slice f.A f.l.length f.C, .slice A4 (subl x.l long (long + body)).length C5, .bool keep, .int .i64 (long : Int), .int .i64 (body : Int), .slice A34 (y.l ++ [((200 : Int), (m : List UInt8), (t : List UInt8), (minor : Int), (⟨f.A, f.C, f.l⟩ : Vs (List UInt8 × List UInt8)), (⟨A4, C5, subl x.l long (long + body)⟩ : Vs UInt8), keep)]).length C35] 51 (0, 0))] :: H) 6 0 tf_sz40 rfl rfl rfl rfl rfl rfl rfl rfl rfl, ?_⟩
    rintro _ _ ⟨rfl, rfl⟩
    refine ⟨[], rfl, ?_⟩
    refine ⟨⟨.inl (by kernel_rfl), .inl (by kernel_rfl), .inl (by kernel_rfl), .inl (by kernel_rfl), .inl (by kernel_rfl), .inl (by kernel_rfl), .inl (by kernel_rfl), .inl (by kernel_rfl), .inl (by kernel_rfl), .inl (by kernel_rfl), .inl (by kernel_rfl), trivial⟩, by kernel_rfl, ?_⟩
    refine At.mono (E' := [(0, .pointer (some ⟨r, 0, none⟩))]) ⟨rfl, trivial⟩ ?_
    refine At.seq ?_
    refine At.seq ?_
    refine At.region ?_
    refine AtL.move (.inl rfl) rfl rfl ?_
    refine AtL.nilCheck (.inl rfl) rfl rfl ?_
    refine AtL.fieldAddrB tf_fo51_3 (.inl rfl) rfl rfl rfl ?_
    refine AtL.fieldAddrB tf_fo49_3 (.inl rfl) rfl rfl rfl ?_
    refine AtL.load tf_flat4 (.inl rfl) rfl rfl (Cell.own 6 0 rfl rfl rfl) ?_
    refine AtL.not (.inl rfl) rfl rfl ?_
    refine AtL.done ?_
    refine At.cond rfl ?_ ?_
    · intro hc2
      have hc2 : keep = false := bnot_true hc2
      refine At.seq ?_
      refine At.region ?_
      refine AtL.move (.inl rfl) rfl rfl ?_
      refine AtL.pick (H' := [(r, .cells #[.bool true, .slice A19 (subl x.l (long + body) x.l.length).length C20, .func (.func 79) #[.pointer (some ⟨r, 0, none⟩)] #[], .int .i64 200, str m, str t, .int .i64 minor, .slice f.A f.l.length f.C, .slice A4 (subl x.l long (long + body)).length C5, .bool keep, .int .i64 (long : Int), .int .i64 (body : Int), .slice A34 (y.l ++ [((200 : Int), (m : List UInt8), (t : List UInt8), (minor : Int), (⟨f.A, f.C, f.l⟩ : Vs (List UInt8 × List UInt8)), (⟨A4, C5, subl x.l long (long + body)⟩ : Vs UInt8), keep)]).length C35] 51 (0, 0))] :: s32 :: s22 :: s7 :: f.s :: s36 :: x.s :: H) [6, 0, 1, 2, 3, 4, 5] 7 rfl rfl ?_
      refine AtL.call tf_body116 (.inl rfl) rfl rfl over_ok14 ?_
      rintro _ _ ⟨rfl, rfl⟩
      refine AtL.done ?_
      refine At.seq ?_
      refine At.region ?_
      refine AtL.assign (.inl rfl) rfl rfl ?_
      refine AtL.done ?_
      refine At.pick (H' := s7 :: f.s :: s36 :: s22 :: [(r, .cells #[.bool true, .slice none 0 0, .nilFunc, .int .i64 200, str m, str t, .int .i64 minor, .slice f.A f.l.length f.C, .slice A4 (subl x.l long (long + body)).length C5, .bool keep, .int .i64 (long : Int), .int .i64 (body : Int), .slice A34 (y.l ++ [((200 : Int), (m : List UInt8), (t : List UInt8), (minor : Int), (⟨f.A, f.C, f.l⟩ : Vs (List UInt8 × List UInt8)), (⟨A4, C5, subl x.l long (long + body)⟩ : Vs UInt8), keep)]).length C35] 51 (0, 0))] :: H) [3, 4, 5, 2, 0] 7 rfl rfl ?_
      exact At.ret Tryz.func79 rfl rfl (.inr ⟨by omega, ⟨A4, C5, subl x.l long (long + body), s7, o8⟩, ⟨A34, C35, y.l ++ [((200 : Int), (m : List UInt8), (t : List UInt8), (minor : Int), (⟨f.A, f.C, f.l⟩ : Vs (List UInt8 × List UInt8)), (⟨A4, C5, subl x.l long (long + body)⟩ : Vs UInt8), keep)], s36, o37⟩, ⟨A19, C20, subl x.l (long + body) x.l.length, s22, o23⟩, fun | 0 => .int .i64 200 | 1 => str m | 2 => str t | 3 => .int .i64 minor | 4 => .slice f.A f.l.length f.C | 5 => .slice A4 (subl x.l long (long + body)).length C5 | 6 => .bool keep | 7 => .int .i64 (long : Int) | _ => .int .i64 (body : Int), by dsimp only; rw [subl_mid], rfl, .inr ⟨by simpa using hc2, rfl, rfl⟩⟩)
    · intro hc2
      have hc2 : keep = true := bnot_false hc2
      refine At.skip ?_
      refine At.seq ?_
      refine At.region ?_
      refine AtL.move (.inl rfl) rfl rfl ?_
      refine AtL.move (.inl rfl) rfl rfl ?_
      refine AtL.makeFunc (.inl rfl) rfl rfl rfl ?_
      refine AtL.nilCheck (.inl rfl) rfl rfl ?_
      refine AtL.fieldAddrB tf_fo51_2 (.inl rfl) rfl rfl rfl ?_
      refine AtL.store (H' := s32 :: s22 :: s7 :: f.s :: s36 :: x.s :: [(r, .cells #[.bool true, .slice A19 (subl x.l (long + body) x.l.length).length C20, .func (.func 47) #[.pointer (some ⟨r, 0, none⟩)] #[], .int .i64 200, str m, str t, .int .i64 minor, .slice f.A f.l.length f.C, .slice A4 (subl x.l long (long + body)).length C5, .bool keep, .int .i64 (long : Int), .int .i64 (body : Int), .slice A34 (y.l ++ [((200 : Int), (m : List UInt8), (t : List UInt8), (minor : Int), (⟨f.A, f.C, f.l⟩ : Vs (List UInt8 × List UInt8)), (⟨A4, C5, subl x.l long (long + body)⟩ : Vs UInt8), keep)]).length C35] 51 (0, 0))] :: H) 6 0 tf_sz23 (.inl rfl) rfl rfl rfl rfl rfl rfl rfl rfl rfl ?_
      refine AtL.done ?_
      refine At.seq ?_
      refine At.region ?_
      refine AtL.assign (.inl rfl) rfl rfl ?_
      refine AtL.done ?_
      refine At.pick (H' := s7 :: f.s :: s36 :: s22 :: [(r, .cells #[.bool true, .slice A19 (subl x.l (long + body) x.l.length).length C20, .func (.func 47) #[.pointer (some ⟨r, 0, none⟩)] #[], .int .i64 200, str m, str t, .int .i64 minor, .slice f.A f.l.length f.C, .slice A4 (subl x.l long (long + body)).length C5, .bool keep, .int .i64 (long : Int), .int .i64 (body : Int), .slice A34 (y.l ++ [((200 : Int), (m : List UInt8), (t : List UInt8), (minor : Int), (⟨f.A, f.C, f.l⟩ : Vs (List UInt8 × List UInt8)), (⟨A4, C5, subl x.l long (long + body)⟩ : Vs UInt8), keep)]).length C35] 51 (0, 0))] :: H) [2, 3, 4, 1, 6] 7 rfl rfl ?_
      exact At.ret Tryz.func79 rfl rfl (.inr ⟨by omega, ⟨A4, C5, subl x.l long (long + body), s7, o8⟩, ⟨A34, C35, y.l ++ [((200 : Int), (m : List UInt8), (t : List UInt8), (minor : Int), (⟨f.A, f.C, f.l⟩ : Vs (List UInt8 × List UInt8)), (⟨A4, C5, subl x.l long (long + body)⟩ : Vs UInt8), keep)], s36, o37⟩, ⟨A19, C20, subl x.l (long + body) x.l.length, s22, o23⟩, fun | 0 => .int .i64 200 | 1 => str m | 2 => str t | 3 => .int .i64 minor | 4 => .slice f.A f.l.length f.C | 5 => .slice A4 (subl x.l long (long + body)).length C5 | 6 => .bool keep | 7 => .int .i64 (long : Int) | _ => .int .i64 (body : Int), by dsimp only; rw [subl_mid], rfl, .inl ⟨by simpa using hc2, by dsimp only; rw [subl_from], rfl, rfl⟩⟩)
end Go.Proofs.YtlkdmbpbjhjkfaaGreatDoor
namespace Go.Proofs.YtlkdmbpbjhjkfaaGreatDoor
set_option linter.unusedVariables false
set_option linter.unusedSimpArgs false
set_option maxRecDepth 100000
set_option maxHeartbeats 400000 in
theorem rdnew_ok {w0 : World} {base : Nat} {H : List Seg}  :
    SCalls Tryz.prog 21 [] w0 base (H) (fun v H' => ∃ (r : Nat) (g : Nat → Value), v = .pointer (some ⟨r, 0, none⟩) ∧ H' = rdC r .head Sl.nil (.slice none 0 0) g :: H) := by
  refine SCalls.of_walk (n := 10) Tryz.func21 rfl rfl rfl fun cs => ?_
  refine At.seq ?_
  refine At.region ?_
  refine AtL.assign (.inl rfl) rfl rfl ?_
  refine AtL.done ?_
  refine At.seq ?_
  refine At.region ?_
  refine AtL.build (cs := [.bool true, .slice none 0 0, .nilFunc, .int .i64 0, str [], str [], .int .i64 0, .slice none 0 0, .slice none 0 0, .bool false, .int .i64 0, .int .i64 0, .slice none 0 0]) tf_lay51 (.inl rfl) rfl rfl rfl ?_
  refine AtL.box (cs := #[.bool true, .slice none 0 0, .nilFunc, .int .i64 0, str [], str [], .int .i64 0, .slice none 0 0, .slice none 0 0, .bool false, .int .i64 0, .int .i64 0, .slice none 0 0]) rfl (.inl rfl) rfl rfl ?_
  intro b1
  refine AtL.assign (.inl rfl) rfl rfl ?_
  refine AtL.done ?_
  refine At.seq ?_
  refine At.region ?_
  refine AtL.move (.inl rfl) rfl rfl ?_
  refine AtL.move (.inl rfl) rfl rfl ?_
  refine AtL.makeFunc (.inl rfl) rfl rfl rfl ?_
  refine AtL.nilCheck (.inl rfl) rfl rfl ?_
  refine AtL.fieldAddrB tf_fo51_2 (.inl rfl) rfl rfl rfl ?_
  refine AtL.store (H' := [(b1, .cells #[.bool true, .slice none 0 0, .func (.func 47) #[.pointer (some ⟨b1, 0, none⟩)] #[], .int .i64 0, str [], str [], .int .i64 0, .slice none 0 0, .slice none 0 0, .bool false, .int .i64 0, .int .i64 0, .slice none 0 0] 51 (0, 0))] :: H) 0 0 tf_sz23 (.inl rfl) rfl rfl rfl rfl rfl rfl rfl rfl rfl ?_
  refine AtL.done ?_
  refine At.seq ?_
  refine At.region ?_
  refine AtL.move (.inl rfl) rfl rfl ?_
  refine AtL.assign (.inl rfl) rfl rfl ?_
  refine AtL.done ?_
  exact At.ret Tryz.func21 rfl rfl (⟨b1, fun | 0 => .int .i64 0 | 1 => str [] | 2 => str [] | 3 => .int .i64 0 | 4 => .slice none 0 0 | 5 => .slice none 0 0 | 6 => .bool false | 7 => .int .i64 0 | _ => .int .i64 0, rfl, rfl⟩)
set_option maxHeartbeats 400000 in
theorem rdover_over {w0 : World} {base : Nat} {H : List Seg} {r : Nat} {a3 a4 a5 a6 a7 a8 a9 a10 a11 a12 : Value} :
    SCalls Tryz.prog 29 [.pointer (some ⟨r, 0, none⟩)] w0 base ([(r, .cells #[.bool true, .slice none 0 0, .nilFunc, a3, a4, a5, a6, a7, a8, a9, a10, a11, a12] 51 (0, 0))] :: H) (fun v H' => v = .bool true ∧ H' = [(r, .cells #[.bool true, .slice none 0 0, .nilFunc, a3, a4, a5, a6, a7, a8, a9, a10, a11, a12] 51 (0, 0))] :: H) := by
  refine SCalls.of_walk (n := 18) Tryz.func29 rfl rfl rfl fun cs => ?_
  refine At.seq ?_
  refine At.region ?_
  refine AtL.assign (.inl rfl) rfl rfl ?_
  refine AtL.done ?_
  refine At.seq ?_
  refine At.region ?_
  refine AtL.move (.inl rfl) rfl rfl ?_
  refine AtL.nePtrNil Tryz.underlying34 (.inl rfl) rfl rfl rfl ?_
  refine AtL.move (.inl rfl) rfl rfl ?_
  refine AtL.move (.inr ⟨_, _, _, rfl, rfl, rfl, rfl⟩) rfl rfl ?_
  refine AtL.nilCheck (.inr ⟨_, _, _, rfl, rfl, rfl, rfl⟩) rfl rfl ?_
  refine AtL.fieldAddrB tf_fo51_0 (.inr ⟨_, _, _, rfl, rfl, rfl, rfl⟩) rfl rfl rfl ?_
  refine AtL.load tf_flat4 (.inr ⟨_, _, _, rfl, rfl, rfl, rfl⟩) rfl rfl (Cell.own 0 0 rfl rfl rfl) ?_
  refine AtL.pickT (.inl rfl) rfl rfl rfl ?_
  refine AtL.move (.inl rfl) rfl rfl ?_
  refine AtL.move (.inr ⟨_, _, _, rfl, rfl, rfl, rfl⟩) rfl rfl ?_
  refine AtL.nilCheck (.inr ⟨_, _, _, rfl, rfl, rfl, rfl⟩) rfl rfl ?_
  refine AtL.fieldAddrB tf_fo51_2 (.inr ⟨_, _, _, rfl, rfl, rfl, rfl⟩) rfl rfl rfl ?_
  refine AtL.load tf_flat23 (.inr ⟨_, _, _, rfl, rfl, rfl, rfl⟩) rfl rfl (Cell.own 0 0 rfl rfl rfl) ?_
  refine AtL.eqNilFunc Tryz.underlying23 (.inr ⟨_, _, _, rfl, rfl, rfl, rfl⟩) rfl rfl rfl ?_
  refine AtL.pickT (.inl rfl) rfl rfl rfl ?_
  refine AtL.assign (.inl rfl) rfl rfl ?_
  refine AtL.done ?_
  exact At.ret Tryz.func29 rfl rfl (⟨rfl, rfl⟩)
set_option maxHeartbeats 400000 in
theorem rdover_fn {w0 : World} {base : Nat} {H : List Seg} {r : Nat} {x : Sl tyB 5} {k : Nat} {p : Value} {a3 a4 a5 a6 a7 a8 a9 a10 a11 a12 : Value} :
    SCalls Tryz.prog 29 [.pointer (some ⟨r, 0, none⟩)] w0 base (x.s :: [(r, .cells #[.bool true, .slice x.A x.l.length x.C, .func (.func k) #[p] #[], a3, a4, a5, a6, a7, a8, a9, a10, a11, a12] 51 (0, 0))] :: H) (fun v H' => v = .bool false ∧ H' = x.s :: [(r, .cells #[.bool true, .slice x.A x.l.length x.C, .func (.func k) #[p] #[], a3, a4, a5, a6, a7, a8, a9, a10, a11, a12] 51 (0, 0))] :: H) := by
  refine SCalls.of_walk (n := 18) Tryz.func29 rfl rfl rfl fun cs => ?_
  refine At.seq ?_
  refine At.region ?_
  refine AtL.assign (.inl rfl) rfl rfl ?_
  refine AtL.done ?_
  refine At.seq ?_
  refine At.region ?_
  refine AtL.move (.inl rfl) rfl rfl ?_
  refine AtL.nePtrNil Tryz.underlying34 (.inl rfl) rfl rfl rfl ?_
  refine AtL.move (.inl rfl) rfl rfl ?_
  refine AtL.move (.inr ⟨_, _, _, rfl, rfl, rfl, rfl⟩) rfl rfl ?_
  refine AtL.nilCheck (.inr ⟨_, _, _, rfl, rfl, rfl, rfl⟩) rfl rfl ?_
  refine AtL.fieldAddrB tf_fo51_0 (.inr ⟨_, _, _, rfl, rfl, rfl, rfl⟩) rfl rfl rfl ?_
  refine AtL.load tf_flat4 (.inr ⟨_, _, _, rfl, rfl, rfl, rfl⟩) rfl rfl (Cell.own 1 0 rfl rfl rfl) ?_
  refine AtL.pickT (.inl rfl) rfl rfl rfl ?_
  refine AtL.move (.inl rfl) rfl rfl ?_
  refine AtL.move (.inr ⟨_, _, _, rfl, rfl, rfl, rfl⟩) rfl rfl ?_
  refine AtL.nilCheck (.inr ⟨_, _, _, rfl, rfl, rfl, rfl⟩) rfl rfl ?_
  refine AtL.fieldAddrB tf_fo51_2 (.inr ⟨_, _, _, rfl, rfl, rfl, rfl⟩) rfl rfl rfl ?_
  refine AtL.load tf_flat23 (.inr ⟨_, _, _, rfl, rfl, rfl, rfl⟩) rfl rfl (Cell.own 1 0 rfl rfl rfl) ?_
  refine AtL.eqFuncNil Tryz.underlying23 (.inr ⟨_, _, _, rfl, rfl, rfl, rfl⟩) rfl rfl rfl ?_
  refine AtL.pickT (.inl rfl) rfl rfl rfl ?_
  refine AtL.assign (.inl rfl) rfl rfl ?_
  refine AtL.done ?_
  exact At.ret Tryz.func29 rfl rfl (⟨rfl, rfl⟩)
set_option maxHeartbeats 400000 in
theorem rdleft_over {w0 : World} {base : Nat} {H : List Seg} {r : Nat} {a3 a4 a5 a6 a7 a8 a9 a10 a11 a12 : Value} :
    SCalls Tryz.prog 28 [.pointer (some ⟨r, 0, none⟩)] w0 base ([(r, .cells #[.bool true, .slice none 0 0, .nilFunc, a3, a4, a5, a6, a7, a8, a9, a10, a11, a12] 51 (0, 0))] :: H) (fun v H' => v = int 0 ∧ H' = [(r, .cells #[.bool true, .slice none 0 0, .nilFunc, a3, a4, a5, a6, a7, a8, a9, a10, a11, a12] 51 (0, 0))] :: H) := by
  refine SCalls.of_walk (n := 10) Tryz.func28 rfl rfl rfl fun cs => ?_
  refine At.seq ?_
  refine At.region ?_
  refine AtL.assign (.inl rfl) rfl rfl ?_
  refine AtL.done ?_
  refine At.seq ?_
  refine At.seq ?_
  refine At.region ?_
  refine AtL.move (.inl rfl) rfl rfl ?_
  refine AtL.eqPtrNil Tryz.underlying34 (.inl rfl) rfl rfl rfl ?_
  refine AtL.done ?_
  refine At.condF rfl ?_
  refine At.skip ?_
  refine At.seq ?_
  refine At.region ?_
  refine AtL.move (.inl rfl) rfl rfl ?_
  refine AtL.nilCheck (.inl rfl) rfl rfl ?_
  refine AtL.fieldAddrB tf_fo51_1 (.inl rfl) rfl rfl rfl ?_
  refine AtL.load tf_flat22 (.inl rfl) rfl rfl (Cell.own 0 0 rfl rfl rfl) ?_
  refine AtL.lenL Tryz.underlying22 (.inl rfl) rfl rfl ?_
  refine AtL.assign (.inl rfl) rfl rfl ?_
  refine AtL.done ?_
  exact At.ret Tryz.func28 rfl rfl (⟨rfl, rfl⟩)
set_option maxHeartbeats 400000 in
theorem rdleft_fn {w0 : World} {base : Nat} {H : List Seg} {r : Nat} {x : Sl tyB 5} {k : Nat} {p : Value} {a3 a4 a5 a6 a7 a8 a9 a10 a11 a12 : Value} :
    SCalls Tryz.prog 28 [.pointer (some ⟨r, 0, none⟩)] w0 base (x.s :: [(r, .cells #[.bool true, .slice x.A x.l.length x.C, .func (.func k) #[p] #[], a3, a4, a5, a6, a7, a8, a9, a10, a11, a12] 51 (0, 0))] :: H) (fun v H' => v = int (x.l.length : Int) ∧ H' = x.s :: [(r, .cells #[.bool true, .slice x.A x.l.length x.C, .func (.func k) #[p] #[], a3, a4, a5, a6, a7, a8, a9, a10, a11, a12] 51 (0, 0))] :: H) := by
  refine SCalls.of_walk (n := 10) Tryz.func28 rfl rfl rfl fun cs => ?_
  refine At.seq ?_
  refine At.region ?_
  refine AtL.assign (.inl rfl) rfl rfl ?_
  refine AtL.done ?_
  refine At.seq ?_
  refine At.seq ?_
  refine At.region ?_
  refine AtL.move (.inl rfl) rfl rfl ?_
  refine AtL.eqPtrNil Tryz.underlying34 (.inl rfl) rfl rfl rfl ?_
  refine AtL.done ?_
  refine At.condF rfl ?_
  refine At.skip ?_
  refine At.seq ?_
  refine At.region ?_
  refine AtL.move (.inl rfl) rfl rfl ?_
  refine AtL.nilCheck (.inl rfl) rfl rfl ?_
  refine AtL.fieldAddrB tf_fo51_1 (.inl rfl) rfl rfl rfl ?_
  refine AtL.load tf_flat22 (.inl rfl) rfl rfl (Cell.own 1 0 rfl rfl rfl) ?_
  refine AtL.lenL Tryz.underlying22 (.inl rfl) rfl rfl ?_
  refine AtL.assign (.inl rfl) rfl rfl ?_
  refine AtL.done ?_
  exact At.ret Tryz.func28 rfl rfl (⟨rfl, rfl⟩)
def Rph.isOver : Rph → Bool
  | .over => true
  | _ => false
def leftN (ph : Rph) (x : Sl tyB 5) : Nat := match ph with
  | .over => 0
  | _ => x.l.length
theorem rdover_ok {w0 : World} {base : Nat} {H : List Seg} {r : Nat} {ph : Rph} {x : Sl tyB 5} {o : Value} {g : Nat → Value} : SCalls Tryz.prog 29 [.pointer (some ⟨r, 0, none⟩)] w0 base (x.s :: rdC r ph x o g :: H) (fun v H' => v = .bool ph.isOver ∧ H' = x.s :: rdC r ph x o g :: H) := by
  cases ph with
  | over =>
    refine SCalls.pick (H' := rdC r .over x o g :: x.s :: H) [1, 0] 2 rfl rfl ((rdover_over (H := x.s :: H)).permR ?_)
    rintro v H' ⟨rfl, rfl⟩
    exact ⟨_, List.Perm.swap _ _ _, rfl, rfl⟩
  | head => exact rdover_fn
  | rest m t minor f keep long body => exact rdover_fn
theorem rdleft_ok {w0 : World} {base : Nat} {H : List Seg} {r : Nat} {ph : Rph} {x : Sl tyB 5} {o : Value} {g : Nat → Value} : SCalls Tryz.prog 28 [.pointer (some ⟨r, 0, none⟩)] w0 base (x.s :: rdC r ph x o g :: H) (fun v H' => v = int (leftN ph x : Int) ∧ H' = x.s :: rdC r ph x o g :: H) := by
  cases ph with
  | over =>
    refine SCalls.pick (H' := rdC r .over x o g :: x.s :: H) [1, 0] 2 rfl rfl ((rdleft_over (H := x.s :: H)).permR ?_)
    rintro v H' ⟨rfl, rfl⟩
    exact ⟨_, List.Perm.swap _ _ _, rfl, rfl⟩
  | head => exact rdleft_fn
  | rest m t minor f keep long body => exact rdleft_fn
end Go.Proofs.YtlkdmbpbjhjkfaaGreatDoor
namespace Go.Proofs.YtlkdmbpbjhjkfaaGreatDoor
set_option linter.unusedVariables false
set_option linter.unusedSimpArgs false
set_option maxRecDepth 100000
def remF : Rph → List UInt8 → List ItV × List UInt8 × Bool
  | .over, _ => ([], [], true)
  | .head, b => runF b
  | .rest .., b => runF b
def stOk : Rph → List UInt8 → Prop
  | .rest m t minor f keep long body, b => headF14 b = .ready ⟨m, t, minor, f.l⟩ long body keep
  | _, _ => True
def wtR : Rph → Nat
  | .head => 1
  | _ => 0
def okPh : Rph → List UInt8 → Prop
  | .over, _ => True
  | .head, b => headF14 b = .wait
  | .rest m t minor f keep long body, b => headF14 b = .ready ⟨m, t, minor, f.l⟩ long body keep ∧ b.length < long + body
theorem itS_snoc (l : List It) (i : It) : itS (l ++ [i]) = itS l ++ (i.f.s ++ i.z.s) := by simp [itS]
theorem itS_bad (l : List It) (s : Int) : itS (l ++ [It.bad s]) = itS l := by rw [itS_snoc]; simp [It.bad, Sl.nil]
theorem flat_merge3 (a b c : Seg) (H : List Seg) : (a :: b :: c :: H).flatten.Perm ((a ++ (b ++ c)) :: H).flatten := by simp
theorem rem_last {its : List It} {R Q : List ItV × List UInt8 × Bool} (h : (its.map It.pl ++ R.1, R.2) = Q) {is : List ItV} {b : List UInt8} {o : Bool} (hr : R = (is, b, o)) : its.map It.pl ++ is = Q.1 ∧ Q.2 = (b, o) := by
  subst hr; subst h; exact ⟨rfl, rfl⟩
theorem len_small (fs : List Fld) : (lengthF fs).1.toNat ≤ 65535 := by
  unfold lengthF
  repeat' split
  all_goals (try simp only [Int.toNat_natCast])
  all_goals first | omega | decide
theorem body_small {b : List UInt8} {hd : HeadV} {long body : Nat} {k : Bool} (h : headF14 b = .ready hd long body k) : body ≤ 65535 := by
  unfold headF14 at h
  split at h
  · split at h <;> cases h
  · unfold askR at h
    repeat' split at h
    all_goals first | (cases h; done) | skip
    all_goals (injection h with _ _ h3 _; rw [← h3]; exact len_small _)
theorem run_step {its : List It} {x : List UInt8} {Q : List ItV × List UInt8 × Bool} {m t : List UInt8} {minor : Int} {f : Sl tyField 78} {keep : Bool} {long body : Nat} {z x' : Sl tyB 5} (hr : (its.map It.pl ++ (remF (.rest m t minor f keep long body) x).1, (remF (.rest m t minor f keep long body) x).2) = Q) (hs : headF14 x = .ready ⟨m, t, minor, f.l⟩ long body keep) (hsh : ¬ x.length < long + body) (hk : keep = true) (hz : z.l = (x.drop long).take body) (hx' : x'.l = x.drop (long + body)) :
    ((its ++ [(⟨200, m, t, minor, f, z, keep⟩ : It)]).map It.pl ++ (remF .head x'.l).1, (remF .head x'.l).2) = Q := by
  subst hk
  rw [← hr]
  simp only [remF]
  rw [run_more hs hsh, hx', List.map_append]
  simp only [List.map_cons, List.map_nil, It.pl, hz, List.append_assoc, List.cons_append, List.nil_append]
set_option maxHeartbeats 2000000 in
theorem push_gen {w0 : World} {base : Nat} {H : List Seg} {r : Nat} {x : Sl tyB 5} {ph : Rph} {g : Nat → Value} {k : Nat} {q a3 a4 a5 a6 a7 a8 a9 a10 a11 : Value} {A : Option Addr} {C : Nat} {l : List UInt8} (h : Rd tyB w0 base H A C l) (hC : ∀ x : Sl tyB 5, ([(r, .cells #[.bool true, .slice x.A x.l.length x.C, .func (.func k) #[q] #[], a3, a4, a5, a6, a7, a8, a9, a10, a11, .slice none 0 0] 51 (0, 0))] : Seg) = rdC r ph x (.slice none 0 0) g) (hst : stOk ph (x.l ++ l)) (hrem : (remF ph (x.l ++ l)) = runF (x.l ++ l)) (hsz : x.l.length + l.length ≤ 999990) (T : Tabs w0 base) :
    SCalls Tryz.prog 25 [.pointer (some ⟨r, 0, none⟩), .slice A l.length C] w0 base (ph.s :: x.s :: [(r, .cells #[.bool true, .slice x.A x.l.length x.C, .func (.func k) #[q] #[], a3, a4, a5, a6, a7, a8, a9, a10, a11, .slice none 0 0] 51 (0, 0))] :: H) (fun v H' => ∃ (its : List It) (o : Sl tyItem 49) (ph' : Rph) (x' : Sl tyB 5) (g' : Nat → Value), o.l = its.map It.v ∧ its.map It.pl = (runF (x.l ++ l)).1 ∧ okPh ph' x'.l ∧ ph'.isOver = (runF (x.l ++ l)).2.2 ∧ (ph'.isOver = false → x'.l = (runF (x.l ++ l)).2.1) ∧ v = .tuple #[.slice o.A o.l.length o.C, int 0] ∧ H' = itS its :: o.s :: ph'.s :: x'.s :: rdC r ph' x' (.slice none 0 0) g' :: H) := by
  have hle0 := h.le
  have hcap0 := h.cap
  have hcapx := Own.cap_le x.own
  have hsa : (subl x.l 0 x.l.length).length = x.l.length := by rw [subl_all]
  refine SCalls.of_walk (n := 63) Tryz.func25 rfl rfl rfl fun cs => ?_
  refine At.seq ?_
  refine At.region ?_
  refine AtL.assign (.inl rfl) rfl rfl ?_
  refine AtL.assign (.inl rfl) rfl rfl ?_
  refine AtL.done ?_
  refine At.seq ?_
  refine At.block ?_
  refine At.seq ?_
  refine At.region ?_
  refine AtL.move (.inl rfl) rfl rfl ?_
  refine AtL.eqPtrNil Tryz.underlying34 (.inl rfl) rfl rfl rfl ?_
  refine AtL.move (.inl rfl) rfl rfl ?_
  refine AtL.move (.inr ⟨_, _, _, rfl, rfl, rfl, rfl⟩) rfl rfl ?_
  refine AtL.nilCheck (.inr ⟨_, _, _, rfl, rfl, rfl, rfl⟩) rfl rfl ?_
  refine AtL.fieldAddrB tf_fo51_0 (.inr ⟨_, _, _, rfl, rfl, rfl, rfl⟩) rfl rfl rfl ?_
  refine AtL.load tf_flat4 (.inr ⟨_, _, _, rfl, rfl, rfl, rfl⟩) rfl rfl (Cell.own 2 0 rfl rfl rfl) ?_
  refine AtL.not (.inr ⟨_, _, _, rfl, rfl, rfl, rfl⟩) rfl rfl ?_
  refine AtL.pickF (.inl rfl) rfl rfl rfl ?_
  refine AtL.assign (.inl rfl) rfl rfl ?_
  refine AtL.done ?_
  refine At.condF rfl ?_
  refine At.seq ?_
  refine At.region ?_
  refine AtL.move (.inl rfl) rfl rfl ?_
  refine AtL.nilCheck (.inl rfl) rfl rfl ?_
  refine AtL.fieldAddrB tf_fo51_2 (.inl rfl) rfl rfl rfl ?_
  refine AtL.load tf_flat23 (.inl rfl) rfl rfl (Cell.own 2 0 rfl rfl rfl) ?_
  refine AtL.eqFuncNil Tryz.underlying23 (.inl rfl) rfl rfl rfl ?_
  refine AtL.assign (.inl rfl) rfl rfl ?_
  refine AtL.done ?_
  refine At.condF rfl ?_
  refine At.skip ?_
  refine At.inBlock ?_
  refine At.seq ?_
  have hleo3 := Own.le_cap x.own
  obtain ⟨A1, eA1⟩ : ∃ A1 : Option Addr, A1 = (if x.l.length = 0 then x.A else Option.map (fun a => a.add (0 * tyB.sz)) x.A) := ⟨_, rfl⟩
  obtain ⟨C2, eC2⟩ : ∃ C2 : Nat, C2 = x.l.length - 0 := ⟨_, rfl⟩
  have o3 : Own tyB 5 A1 C2 (subl x.l 0 x.l.length) x.s := by rw [eA1, eC2]; exact Own.cut x.own (by omega) (by omega) (by omega) (by omega)
  refine At.draw (es := [17, 20]) (pv := [(0, .pointer (some ⟨r, 0, none⟩)), (1, .pointer (some ⟨r, 0, none⟩)), (2, .pointer (some ⟨r, 0, none⟩)), (3, .pointer (some ⟨r, 1, none⟩)), (4, .slice x.A x.l.length x.C), (5, .pointer (some ⟨r, 0, none⟩)), (6, .pointer (some ⟨r, 0, none⟩)), (7, .pointer (some ⟨r, 1, none⟩)), (8, .slice x.A x.l.length x.C), (9, .int .i64 (x.l.length : Int)), (10, .pointer (some ⟨r, 0, none⟩)), (11, .pointer (some ⟨r, 0, none⟩)), (12, .pointer (some ⟨r, 1, none⟩)), (13, .slice x.A x.l.length x.C), (14, .int .i64 (x.l.length : Int)), (15, .slice A1 (subl x.l 0 x.l.length).length C2), (16, .slice A l.length C)]) tf_mixed (by kernel_rfl) (by kernel_rfl) (by kernel_rfl) ?_
  refine ⟨⟨.inr ⟨_, rfl, rfl, .inl ⟨rfl, Do.move rfl⟩⟩, .inr ⟨_, rfl, rfl, .inl ⟨rfl, Do.move rfl⟩⟩, .inr ⟨_, rfl, rfl, .inl ⟨rfl, Do.nilCheck rfl⟩⟩, .inr ⟨_, rfl, rfl, .inl ⟨rfl, Do.fieldAddrB tf_fo51_1 rfl rfl⟩⟩, .inr ⟨_, rfl, rfl, .inl ⟨rfl, Do.load tf_flat22 rfl (Cell.own 2 0 rfl rfl rfl)⟩⟩, .inr ⟨_, rfl, rfl, .inl ⟨rfl, Do.move rfl⟩⟩, .inr ⟨_, rfl, rfl, .inl ⟨rfl, Do.nilCheck rfl⟩⟩, .inr ⟨_, rfl, rfl, .inl ⟨rfl, Do.fieldAddrB tf_fo51_1 rfl rfl⟩⟩, .inr ⟨_, rfl, rfl, .inl ⟨rfl, Do.load tf_flat22 rfl (Cell.own 2 0 rfl rfl rfl)⟩⟩, .inr ⟨_, rfl, rfl, .inl ⟨rfl, Do.lenL Tryz.underlying22 rfl⟩⟩, .inr ⟨_, rfl, rfl, .inl ⟨rfl, Do.move rfl⟩⟩, .inr ⟨_, rfl, rfl, .inl ⟨rfl, Do.nilCheck rfl⟩⟩, .inr ⟨_, rfl, rfl, .inl ⟨rfl, Do.fieldAddrB tf_fo51_1 rfl rfl⟩⟩, .inr ⟨_, rfl, rfl, .inl ⟨rfl, Do.load tf_flat22 rfl (Cell.own 2 0 rfl rfl rfl)⟩⟩, .inr ⟨_, rfl, rfl, .inl ⟨rfl, Do.lenL Tryz.underlying22 rfl⟩⟩, .inr ⟨_, rfl, rfl, .inl ⟨rfl, Do.sliceX_ (T := tyB) (l := x.l) 0 x.l.length x.l.length rfl (evBound_some rfl rfl) (evBound_some rfl rfl) (fun _ => rfl) (by omega) (by omega) (by omega) Tryz.underlying22 tf_sz5 rfl eA1 (subl_len (l := x.l) (i := 0) (j := x.l.length) (by omega)) eC2⟩⟩, .inr ⟨_, rfl, rfl, .inl ⟨rfl, Do.move rfl⟩⟩, trivial⟩, rfl, rfl, by kernel_rfl, _, rfl, rfl, rfl, _, Do.append (l := subl x.l 0 x.l.length) (news := l) 1 tf_el22 rfl o3 (Rd.skip 3 h) (by first | omega | (simp only [List.length_append, List.length_cons, List.length_nil]; omega) | (simp; done) | (simp; omega)) rfl rfl, ?_⟩
  rintro _ _ ⟨A4, C5, s6, o7, rfl, rfl⟩
  refine ⟨[(18, .pointer (some ⟨r, 0, none⟩)), (19, .pointer (some ⟨r, 1, none⟩))], rfl, ?_⟩
  refine ⟨⟨.inr ⟨_, rfl, rfl, .inl ⟨rfl, Do.nilCheck rfl⟩⟩, .inr ⟨_, rfl, rfl, .inl ⟨rfl, Do.fieldAddrB tf_fo51_1 rfl rfl⟩⟩, .inr ⟨_, rfl, rfl, .inl ⟨rfl, Do.move rfl⟩⟩, .inl (by kernel_rfl), .inl (by kernel_rfl), .inl (by kernel_rfl), .inl (by kernel_rfl), .inl (by kernel_rfl), .inl (by kernel_rfl), .inl (by kernel_rfl), .inl (by kernel_rfl), .inl (by kernel_rfl), .inl (by kernel_rfl), .inl (by kernel_rfl), .inl (by kernel_rfl), .inl (by kernel_rfl), .inl (by kernel_rfl), .inl (by kernel_rfl), .inl (by kernel_rfl), trivial⟩, rfl, rfl, by kernel_rfl, _, rfl, rfl, rfl, _, Do.store (H' := ph.s :: s6 :: [(r, .cells #[.bool true, .slice A4 ((subl x.l 0 x.l.length) ++ l).length C5, .func (.func k) #[q] #[], a3, a4, a5, a6, a7, a8, a9, a10, a11, .slice none 0 0] 51 (0, 0))] :: H) 2 0 tf_sz22 rfl rfl rfl rfl rfl rfl rfl rfl rfl, ?_⟩
  rintro _ _ ⟨rfl, rfl⟩
  refine ⟨[], rfl, ?_⟩
  refine ⟨⟨.inl (by kernel_rfl), .inl (by kernel_rfl), .inl (by kernel_rfl), .inl (by kernel_rfl), .inl (by kernel_rfl), .inl (by kernel_rfl), .inl (by kernel_rfl), .inl (by kernel_rfl), .inl (by kernel_rfl), .inl (by kernel_rfl), .inl (by kernel_rfl), .inl (by kernel_rfl), .inl (by kernel_rfl), .inl (by kernel_rfl), .inl (by kernel_rfl), .inl (by kernel_rfl), .inl (by kernel_rfl), .inl (by kernel_rfl), .inl (by kernel_rfl), trivial⟩, by kernel_rfl, ?_⟩
  refine At.mono (E' := [(0, .pointer (some ⟨r, 0, none⟩))]) ⟨rfl, trivial⟩ ?_
  refine At.seq ?_
  refine At.block ?_
  refine At.nil ?_
  refine At.nil ?_
  obtain ⟨xb, hxb⟩ : ∃ xb : Sl tyB 5, xb = (⟨A4, C5, (subl x.l 0 x.l.length) ++ l, s6, o7⟩ : Sl tyB 5) := ⟨_, rfl⟩
  have hxbl : xb.l = x.l ++ l := by rw [hxb]; dsimp only; rw [subl_all]
  refine At.pick (H' := [] :: [] :: ph.s :: (⟨A4, C5, (subl x.l 0 x.l.length) ++ l, s6, o7⟩ : Sl tyB 5).s :: [(r, .cells #[.bool true, .slice (⟨A4, C5, (subl x.l 0 x.l.length) ++ l, s6, o7⟩ : Sl tyB 5).A (⟨A4, C5, (subl x.l 0 x.l.length) ++ l, s6, o7⟩ : Sl tyB 5).l.length (⟨A4, C5, (subl x.l 0 x.l.length) ++ l, s6, o7⟩ : Sl tyB 5).C, .func (.func k) #[q] #[], a3, a4, a5, a6, a7, a8, a9, a10, a11, .slice none 0 0] 51 (0, 0))] :: H) [0, 1, 2, 3, 4] 5 rfl rfl ?_
  rw [← hxb, hC xb]
  refine At.loop5 (fun (ph2 : Rph) (x2 : Sl tyB 5) (o2 : Sl tyItem 49) (its : List It) (g2 : Nat → Value) => [(0, .pointer (some ⟨r, 0, none⟩))]) (fun (ph2 : Rph) (x2 : Sl tyB 5) (o2 : Sl tyItem 49) (its : List It) (g2 : Nat → Value) => itS its :: o2.s :: ph2.s :: x2.s :: rdC r ph2 x2 (.slice o2.A o2.l.length o2.C) g2 :: H) (fun (ph2 : Rph) (x2 : Sl tyB 5) (o2 : Sl tyItem 49) (its : List It) (g2 : Nat → Value) => o2.l = its.map It.v ∧ (its.map It.pl ++ (remF ph2 x2.l).1, (remF ph2 x2.l).2) = runF (x.l ++ l) ∧ stOk ph2 x2.l ∧ its.length + x2.l.length ≤ x.l.length + l.length) (fun (ph2 : Rph) (x2 : Sl tyB 5) (o2 : Sl tyItem 49) (its : List It) (g2 : Nat → Value) => 2 * x2.l.length + wtR ph2) ph xb Sl.nil [] g (⟨rfl, by rw [hxbl]; exact hrem, by rw [hxbl]; exact hst, by rw [hxbl, List.length_append]; exact Nat.le_of_eq (Nat.zero_add _)⟩) ⟨rfl, trivial⟩ rfl ?_
  rintro ph2 x2 o2 its g2 ⟨ho, hr, hs, hn⟩ ihL1
  have hol : o2.l.length = its.length := by rw [ho, List.length_map]
  have hcapx2 := Own.cap_le x2.own
  have hcapo2 := Own.cap_le o2.own
  refine At.seq ?_
  refine At.seq ?_
  cases ph2 with
  | over =>
    refine At.pick (H' := itS its :: o2.s :: [] :: x2.s :: [(r, .cells #[.bool true, .slice none 0 0, .nilFunc, g2 0, g2 1, g2 2, g2 3, g2 4, g2 5, g2 6, g2 7, g2 8, .slice o2.A o2.l.length o2.C] 51 (0, 0))] :: H) [0, 1, 2, 3, 4] 5 rfl rfl ?_
    refine At.region ?_
    refine AtL.move (.inl rfl) rfl rfl ?_
    refine AtL.nilCheck (.inl rfl) rfl rfl ?_
    refine AtL.fieldAddrB tf_fo51_2 (.inl rfl) rfl rfl rfl ?_
    refine AtL.load tf_flat23 (.inl rfl) rfl rfl (Cell.own 4 0 rfl rfl rfl) ?_
    refine AtL.neNilFunc Tryz.underlying23 (.inl rfl) rfl rfl rfl ?_
    refine AtL.move (.inl rfl) rfl rfl ?_
    refine AtL.skipped rfl rfl rfl rfl rfl rfl ?_
    refine AtL.skipped rfl rfl rfl rfl rfl rfl ?_
    refine AtL.skipped rfl rfl rfl rfl rfl rfl ?_
    refine AtL.skipped rfl rfl rfl rfl rfl rfl ?_
    refine AtL.skipped rfl rfl rfl rfl rfl rfl ?_
    refine AtL.pickF (.inl rfl) rfl rfl rfl ?_
    refine AtL.done ?_
    refine At.condF rfl ?_
    refine At.exit rfl ?_
    refine At.seq ?_
    refine At.region ?_
    refine AtL.move (.inl rfl) rfl rfl ?_
    refine AtL.nilCheck (.inl rfl) rfl rfl ?_
    refine AtL.fieldAddrB tf_fo51_6 (.inl rfl) rfl rfl rfl ?_
    refine AtL.load tf_flat40 (.inl rfl) rfl rfl (Cell.own 4 0 rfl rfl rfl) ?_
    refine AtL.assign (.inl rfl) rfl rfl ?_
    refine AtL.done ?_
    refine At.seq ?_
    refine At.region ?_
    refine AtL.move (.inl rfl) rfl rfl ?_
    refine AtL.nilCheck (.inl rfl) rfl rfl ?_
    refine AtL.fieldAddrB tf_fo51_6 (.inl rfl) rfl rfl rfl ?_
    refine AtL.store (H' := itS its :: o2.s :: [] :: x2.s :: [(r, .cells #[.bool true, .slice none 0 0, .nilFunc, g2 0, g2 1, g2 2, g2 3, g2 4, g2 5, g2 6, g2 7, g2 8, .slice none 0 0] 51 (0, 0))] :: H) 4 0 tf_sz40 (.inl rfl) rfl rfl rfl rfl rfl rfl rfl rfl rfl ?_
    refine AtL.done ?_
    refine At.seq ?_
    refine At.region ?_
    refine AtL.move (.inl rfl) rfl rfl ?_
    refine AtL.assign (.inl rfl) rfl rfl ?_
    refine AtL.assign (.inl rfl) rfl rfl ?_
    refine AtL.done ?_
    have hq := rem_last hr rfl
    exact At.ret Tryz.func25 rfl rfl (⟨its, o2, .over, x2, g2, ho, by rw [← hq.1, List.append_nil], trivial, (congrArg Prod.snd hq.2).symm, fun h => (by cases h), rfl, rfl⟩)
  | head =>
    refine At.pick (H' := itS its :: o2.s :: [] :: x2.s :: [(r, .cells #[.bool true, .slice x2.A x2.l.length x2.C, .func (.func 47) #[.pointer (some ⟨r, 0, none⟩)] #[], g2 0, g2 1, g2 2, g2 3, g2 4, g2 5, g2 6, g2 7, g2 8, .slice o2.A o2.l.length o2.C] 51 (0, 0))] :: H) [0, 1, 2, 3, 4] 5 rfl rfl ?_
    refine At.region ?_
    refine AtL.move (.inl rfl) rfl rfl ?_
    refine AtL.nilCheck (.inl rfl) rfl rfl ?_
    refine AtL.fieldAddrB tf_fo51_2 (.inl rfl) rfl rfl rfl ?_
    refine AtL.load tf_flat23 (.inl rfl) rfl rfl (Cell.own 4 0 rfl rfl rfl) ?_
    refine AtL.neFuncNil Tryz.underlying23 (.inl rfl) rfl rfl rfl ?_
    refine AtL.move (.inl rfl) rfl rfl ?_
    refine AtL.move (.inr ⟨_, _, _, rfl, rfl, rfl, rfl⟩) rfl rfl ?_
    refine AtL.nilCheck (.inr ⟨_, _, _, rfl, rfl, rfl, rfl⟩) rfl rfl ?_
    refine AtL.fieldAddrB tf_fo51_2 (.inr ⟨_, _, _, rfl, rfl, rfl, rfl⟩) rfl rfl rfl ?_
    refine AtL.load tf_flat23 (.inr ⟨_, _, _, rfl, rfl, rfl, rfl⟩) rfl rfl (Cell.own 4 0 rfl rfl rfl) ?_
    refine AtL.pick (H' := o2.s :: x2.s :: [(r, .cells #[.bool true, .slice x2.A x2.l.length x2.C, .func (.func 47) #[.pointer (some ⟨r, 0, none⟩)] #[], g2 0, g2 1, g2 2, g2 3, g2 4, g2 5, g2 6, g2 7, g2 8, .slice o2.A o2.l.length o2.C] 51 (0, 0))] :: itS its :: [] :: H) [1, 3, 4, 0, 2] 5 rfl rfl ?_
    refine AtL.callV tf_body47 (.inr ⟨_, _, _, rfl, rfl, rfl, rfl⟩) rfl rfl rfl rfl (rdhead_ok (x := x2) (y := o2) (g := g2) (by omega) (by omega) T) ?_
    rintro _ _ (⟨hwt, rfl, rfl⟩ | ⟨s, y', g', hen, hy', rfl, rfl⟩ | ⟨m, t, minor, f, keep, long, body, hrd, rfl, rfl⟩)
    · skip
      refine AtL.pick (H' := o2.s :: x2.s :: [(r, .cells #[.bool true, .slice x2.A x2.l.length x2.C, .func (.func 47) #[.pointer (some ⟨r, 0, none⟩)] #[], g2 0, g2 1, g2 2, g2 3, g2 4, g2 5, g2 6, g2 7, g2 8, .slice o2.A o2.l.length o2.C] 51 (0, 0))] :: itS its :: [] :: H) [0, 1, 2, 3, 4] 5 rfl rfl ?_
      refine AtL.pickT (.inl rfl) rfl rfl rfl ?_
      refine AtL.done ?_
      refine At.condF rfl ?_
      refine At.exit rfl ?_
      refine At.seq ?_
      refine At.region ?_
      refine AtL.move (.inl rfl) rfl rfl ?_
      refine AtL.nilCheck (.inl rfl) rfl rfl ?_
      refine AtL.fieldAddrB tf_fo51_6 (.inl rfl) rfl rfl rfl ?_
      refine AtL.load tf_flat40 (.inl rfl) rfl rfl (Cell.own 2 0 rfl rfl rfl) ?_
      refine AtL.assign (.inl rfl) rfl rfl ?_
      refine AtL.done ?_
      refine At.seq ?_
      refine At.region ?_
      refine AtL.move (.inl rfl) rfl rfl ?_
      refine AtL.nilCheck (.inl rfl) rfl rfl ?_
      refine AtL.fieldAddrB tf_fo51_6 (.inl rfl) rfl rfl rfl ?_
      refine AtL.store (H' := o2.s :: x2.s :: [(r, .cells #[.bool true, .slice x2.A x2.l.length x2.C, .func (.func 47) #[.pointer (some ⟨r, 0, none⟩)] #[], g2 0, g2 1, g2 2, g2 3, g2 4, g2 5, g2 6, g2 7, g2 8, .slice none 0 0] 51 (0, 0))] :: itS its :: [] :: H) 2 0 tf_sz40 (.inl rfl) rfl rfl rfl rfl rfl rfl rfl rfl rfl ?_
      refine AtL.done ?_
      refine At.seq ?_
      refine At.region ?_
      refine AtL.move (.inl rfl) rfl rfl ?_
      refine AtL.assign (.inl rfl) rfl rfl ?_
      refine AtL.assign (.inl rfl) rfl rfl ?_
      refine AtL.done ?_
      have hq := rem_last hr (run_wait hwt)
      refine At.pick (H' := itS its :: o2.s :: [] :: x2.s :: [(r, .cells #[.bool true, .slice x2.A x2.l.length x2.C, .func (.func 47) #[.pointer (some ⟨r, 0, none⟩)] #[], g2 0, g2 1, g2 2, g2 3, g2 4, g2 5, g2 6, g2 7, g2 8, .slice none 0 0] 51 (0, 0))] :: H) [3, 0, 4, 1, 2] 5 rfl rfl ?_
      exact At.ret Tryz.func25 rfl rfl (⟨its, o2, .head, x2, g2, ho, by rw [← hq.1, List.append_nil], hwt, (congrArg Prod.snd hq.2).symm, fun _ => (congrArg Prod.fst hq.2).symm, rfl, rfl⟩)
    · skip
      refine AtL.pick (H' := y'.s :: x2.s :: [(r, .cells #[.bool true, .slice none 0 0, .nilFunc, g' 0, g' 1, g' 2, g' 3, g' 4, g' 5, g' 6, g' 7, g' 8, .slice y'.A y'.l.length y'.C] 51 (0, 0))] :: itS its :: [] :: H) [0, 1, 2, 3, 4] 5 rfl rfl ?_
      refine AtL.pickT (.inl rfl) rfl rfl rfl ?_
      refine AtL.done ?_
      refine At.condF rfl ?_
      refine At.exit rfl ?_
      refine At.seq ?_
      refine At.region ?_
      refine AtL.move (.inl rfl) rfl rfl ?_
      refine AtL.nilCheck (.inl rfl) rfl rfl ?_
      refine AtL.fieldAddrB tf_fo51_6 (.inl rfl) rfl rfl rfl ?_
      refine AtL.load tf_flat40 (.inl rfl) rfl rfl (Cell.own 2 0 rfl rfl rfl) ?_
      refine AtL.assign (.inl rfl) rfl rfl ?_
      refine AtL.done ?_
      refine At.seq ?_
      refine At.region ?_
      refine AtL.move (.inl rfl) rfl rfl ?_
      refine AtL.nilCheck (.inl rfl) rfl rfl ?_
      refine AtL.fieldAddrB tf_fo51_6 (.inl rfl) rfl rfl rfl ?_
      refine AtL.store (H' := y'.s :: x2.s :: [(r, .cells #[.bool true, .slice none 0 0, .nilFunc, g' 0, g' 1, g' 2, g' 3, g' 4, g' 5, g' 6, g' 7, g' 8, .slice none 0 0] 51 (0, 0))] :: itS its :: [] :: H) 2 0 tf_sz40 (.inl rfl) rfl rfl rfl rfl rfl rfl rfl rfl rfl ?_
      refine AtL.done ?_
      refine At.seq ?_
      refine At.region ?_
      refine AtL.move (.inl rfl) rfl rfl ?_
      refine AtL.assign (.inl rfl) rfl rfl ?_
      refine AtL.assign (.inl rfl) rfl rfl ?_
      refine AtL.done ?_
      have hq := rem_last hr (run_ends hen)
      rw [show itS its = itS (its ++ [It.bad s]) from (itS_bad its s).symm]
      refine At.pick (H' := itS (its ++ [It.bad s]) :: y'.s :: [] :: x2.s :: [(r, .cells #[.bool true, .slice none 0 0, .nilFunc, g' 0, g' 1, g' 2, g' 3, g' 4, g' 5, g' 6, g' 7, g' 8, .slice none 0 0] 51 (0, 0))] :: H) [3, 0, 4, 1, 2] 5 rfl rfl ?_
      exact At.ret Tryz.func25 rfl rfl (⟨its ++ [It.bad s], y', .over, x2, g', by rw [hy', ho, List.map_append]; rfl, by rw [List.map_append]; exact hq.1, trivial, (congrArg Prod.snd hq.2).symm, fun h => (by cases h), rfl, rfl⟩)
    · skip
      refine AtL.pickT (.inl rfl) rfl rfl rfl ?_
      refine AtL.done ?_
      refine At.condT rfl ?_
      refine At.skip ?_
      refine At.block ?_
      refine At.skip ?_
      refine At.inBlock ?_
      refine At.pick (H' := itS its :: o2.s :: f.s :: x2.s :: rdC r (.rest m t minor f keep long body) x2 (.slice o2.A o2.l.length o2.C) g2 :: H) [4, 1, 0, 2, 3] 6 rfl rfl ?_
      refine ihL1 (.rest m t minor f keep long body) x2 o2 its g2 (⟨ho, hr, hrd, hn⟩) (by have h1 : wtR Rph.head = 1 := rfl; have h2 : wtR ((.rest m t minor f keep long body)) = 0 := rfl; omega) _ ?_
      exact ⟨rfl, trivial⟩
  | rest m t minor f keep long body =>
    have hs : headF14 x2.l = .ready ⟨m, t, minor, f.l⟩ long body keep := hs
    obtain ⟨hlg1, hlg2, hlg3, _⟩ := head_long hs
    have hbd := body_small hs
    refine At.pick (H' := itS its :: o2.s :: f.s :: x2.s :: [(r, .cells #[.bool true, .slice x2.A x2.l.length x2.C, .func (.func 79) #[.pointer (some ⟨r, 0, none⟩)] #[], .int .i64 200, str m, str t, .int .i64 minor, .slice f.A f.l.length f.C, .slice none 0 0, .bool keep, .int .i64 (long : Int), .int .i64 (body : Int), .slice o2.A o2.l.length o2.C] 51 (0, 0))] :: H) [0, 1, 2, 3, 4] 5 rfl rfl ?_
    refine At.region ?_
    refine AtL.move (.inl rfl) rfl rfl ?_
    refine AtL.nilCheck (.inl rfl) rfl rfl ?_
    refine AtL.fieldAddrB tf_fo51_2 (.inl rfl) rfl rfl rfl ?_
    refine AtL.load tf_flat23 (.inl rfl) rfl rfl (Cell.own 4 0 rfl rfl rfl) ?_
    refine AtL.neFuncNil Tryz.underlying23 (.inl rfl) rfl rfl rfl ?_
    refine AtL.move (.inl rfl) rfl rfl ?_
    refine AtL.move (.inr ⟨_, _, _, rfl, rfl, rfl, rfl⟩) rfl rfl ?_
    refine AtL.nilCheck (.inr ⟨_, _, _, rfl, rfl, rfl, rfl⟩) rfl rfl ?_
    refine AtL.fieldAddrB tf_fo51_2 (.inr ⟨_, _, _, rfl, rfl, rfl, rfl⟩) rfl rfl rfl ?_
    refine AtL.load tf_flat23 (.inr ⟨_, _, _, rfl, rfl, rfl, rfl⟩) rfl rfl (Cell.own 4 0 rfl rfl rfl) ?_
    refine AtL.pick (H' := f.s :: o2.s :: x2.s :: [(r, .cells #[.bool true, .slice x2.A x2.l.length x2.C, .func (.func 79) #[.pointer (some ⟨r, 0, none⟩)] #[], .int .i64 200, str m, str t, .int .i64 minor, .slice f.A f.l.length f.C, .slice none 0 0, .bool keep, .int .i64 (long : Int), .int .i64 (body : Int), .slice o2.A o2.l.length o2.C] 51 (0, 0))] :: itS its :: H) [2, 1, 3, 4, 0] 5 rfl rfl ?_
    refine AtL.callV tf_body79 (.inr ⟨_, _, _, rfl, rfl, rfl, rfl⟩) rfl rfl rfl rfl (rdrest_ok (x := x2) (y := o2) (g := g2) (by omega) (by omega) (by omega) (by omega)) ?_
    rintro _ _ (⟨hsh, rfl, rfl⟩ | ⟨hsh, z, y', x', g', hz, hy', (⟨hk, hx', rfl, rfl⟩ | ⟨hk, rfl, rfl⟩)⟩)
    · skip
      refine AtL.pick (H' := f.s :: o2.s :: x2.s :: [(r, .cells #[.bool true, .slice x2.A x2.l.length x2.C, .func (.func 79) #[.pointer (some ⟨r, 0, none⟩)] #[], .int .i64 200, str m, str t, .int .i64 minor, .slice f.A f.l.length f.C, .slice none 0 0, .bool keep, .int .i64 (long : Int), .int .i64 (body : Int), .slice o2.A o2.l.length o2.C] 51 (0, 0))] :: itS its :: H) [0, 1, 2, 3, 4] 5 rfl rfl ?_
      refine AtL.pickT (.inl rfl) rfl rfl rfl ?_
      refine AtL.done ?_
      refine At.condF rfl ?_
      refine At.exit rfl ?_
      refine At.seq ?_
      refine At.region ?_
      refine AtL.move (.inl rfl) rfl rfl ?_
      refine AtL.nilCheck (.inl rfl) rfl rfl ?_
      refine AtL.fieldAddrB tf_fo51_6 (.inl rfl) rfl rfl rfl ?_
      refine AtL.load tf_flat40 (.inl rfl) rfl rfl (Cell.own 3 0 rfl rfl rfl) ?_
      refine AtL.assign (.inl rfl) rfl rfl ?_
      refine AtL.done ?_
      refine At.seq ?_
      refine At.region ?_
      refine AtL.move (.inl rfl) rfl rfl ?_
      refine AtL.nilCheck (.inl rfl) rfl rfl ?_
      refine AtL.fieldAddrB tf_fo51_6 (.inl rfl) rfl rfl rfl ?_
      refine AtL.store (H' := f.s :: o2.s :: x2.s :: [(r, .cells #[.bool true, .slice x2.A x2.l.length x2.C, .func (.func 79) #[.pointer (some ⟨r, 0, none⟩)] #[], .int .i64 200, str m, str t, .int .i64 minor, .slice f.A f.l.length f.C, .slice none 0 0, .bool keep, .int .i64 (long : Int), .int .i64 (body : Int), .slice none 0 0] 51 (0, 0))] :: itS its :: H) 3 0 tf_sz40 (.inl rfl) rfl rfl rfl rfl rfl rfl rfl rfl rfl ?_
      refine AtL.done ?_
      refine At.seq ?_
      refine At.region ?_
      refine AtL.move (.inl rfl) rfl rfl ?_
      refine AtL.assign (.inl rfl) rfl rfl ?_
      refine AtL.assign (.inl rfl) rfl rfl ?_
      refine AtL.done ?_
      have hq := rem_last hr (run_short hs hsh)
      refine At.pick (H' := itS its :: o2.s :: f.s :: x2.s :: [(r, .cells #[.bool true, .slice x2.A x2.l.length x2.C, .func (.func 79) #[.pointer (some ⟨r, 0, none⟩)] #[], .int .i64 200, str m, str t, .int .i64 minor, .slice f.A f.l.length f.C, .slice none 0 0, .bool keep, .int .i64 (long : Int), .int .i64 (body : Int), .slice none 0 0] 51 (0, 0))] :: H) [4, 1, 0, 2, 3] 5 rfl rfl ?_
      exact At.ret Tryz.func25 rfl rfl (⟨its, o2, (.rest m t minor f keep long body), x2, g2, ho, by rw [← hq.1, List.append_nil], ⟨hs, hsh⟩, (congrArg Prod.snd hq.2).symm, fun _ => (congrArg Prod.fst hq.2).symm, rfl, rfl⟩)
    · skip
      refine AtL.pickT (.inl rfl) rfl rfl rfl ?_
      refine AtL.done ?_
      refine At.condT rfl ?_
      refine At.skip ?_
      refine At.block ?_
      refine At.skip ?_
      refine At.inBlock ?_
      refine At.pick (H' := itS its :: f.s :: z.s :: y'.s :: x'.s :: rdC r .head x' (.slice y'.A y'.l.length y'.C) g' :: H) [5, 1, 0, 2, 3, 4] 6 rfl rfl ?_
      refine At.flat (flat_merge3 _ _ _ _) ?_
      rw [show (itS its ++ (f.s ++ z.s) : Seg) = itS (its ++ [(⟨200, m, t, minor, f, z, keep⟩ : It)]) from (itS_snoc its (⟨200, m, t, minor, f, z, keep⟩ : It)).symm]
      refine At.nil ?_
      refine At.pick (H' := itS (its ++ [(⟨200, m, t, minor, f, z, keep⟩ : It)]) :: y'.s :: [] :: x'.s :: rdC r .head x' (.slice y'.A y'.l.length y'.C) g' :: H) [1, 2, 0, 3, 4] 5 rfl rfl ?_
      refine ihL1 .head x' y' (its ++ [(⟨200, m, t, minor, f, z, keep⟩ : It)]) g' (⟨by rw [hy', ho, List.map_append]; rfl, run_step hr hs hsh hk hz hx', trivial, by rw [hx', List.length_append, List.length_drop]; have := head_long hs; simp only [List.length_cons, List.length_nil]; omega⟩) (by have h1 : wtR Rph.head = 1 := rfl; have h2 : wtR ((.rest m t minor f keep long body)) = 0 := rfl; have := head_long hs; rw [hx', List.length_drop]; omega) _ ?_
      exact ⟨rfl, trivial⟩
    · skip
      refine AtL.pick (H' := z.s :: f.s :: y'.s :: x'.s :: [(r, .cells #[.bool true, .slice none 0 0, .nilFunc, g' 0, g' 1, g' 2, g' 3, g' 4, g' 5, g' 6, g' 7, g' 8, .slice y'.A y'.l.length y'.C] 51 (0, 0))] :: itS its :: H) [0, 1, 2, 3, 4, 5] 6 rfl rfl ?_
      refine AtL.pickT (.inl rfl) rfl rfl rfl ?_
      refine AtL.done ?_
      refine At.condF rfl ?_
      refine At.exit rfl ?_
      refine At.seq ?_
      refine At.region ?_
      refine AtL.move (.inl rfl) rfl rfl ?_
      refine AtL.nilCheck (.inl rfl) rfl rfl ?_
      refine AtL.fieldAddrB tf_fo51_6 (.inl rfl) rfl rfl rfl ?_
      refine AtL.load tf_flat40 (.inl rfl) rfl rfl (Cell.own 4 0 rfl rfl rfl) ?_
      refine AtL.assign (.inl rfl) rfl rfl ?_
      refine AtL.done ?_
      refine At.seq ?_
      refine At.region ?_
      refine AtL.move (.inl rfl) rfl rfl ?_
      refine AtL.nilCheck (.inl rfl) rfl rfl ?_
      refine AtL.fieldAddrB tf_fo51_6 (.inl rfl) rfl rfl rfl ?_
      refine AtL.store (H' := z.s :: f.s :: y'.s :: x'.s :: [(r, .cells #[.bool true, .slice none 0 0, .nilFunc, g' 0, g' 1, g' 2, g' 3, g' 4, g' 5, g' 6, g' 7, g' 8, .slice none 0 0] 51 (0, 0))] :: itS its :: H) 4 0 tf_sz40 (.inl rfl) rfl rfl rfl rfl rfl rfl rfl rfl rfl ?_
      refine AtL.done ?_
      refine At.seq ?_
      refine At.region ?_
      refine AtL.move (.inl rfl) rfl rfl ?_
      refine AtL.assign (.inl rfl) rfl rfl ?_
      refine AtL.assign (.inl rfl) rfl rfl ?_
      refine AtL.done ?_
      have hq := rem_last hr (run_last (by rw [← hk]; exact hs) hsh)
      refine At.pick (H' := itS its :: f.s :: z.s :: y'.s :: x'.s :: [(r, .cells #[.bool true, .slice none 0 0, .nilFunc, g' 0, g' 1, g' 2, g' 3, g' 4, g' 5, g' 6, g' 7, g' 8, .slice none 0 0] 51 (0, 0))] :: H) [5, 1, 0, 2, 3, 4] 6 rfl rfl ?_
      refine At.flat (flat_merge3 _ _ _ _) ?_
      rw [show (itS its ++ (f.s ++ z.s) : Seg) = itS (its ++ [(⟨200, m, t, minor, f, z, keep⟩ : It)]) from (itS_snoc its (⟨200, m, t, minor, f, z, keep⟩ : It)).symm]
      refine At.nil ?_
      refine At.pick (H' := itS (its ++ [(⟨200, m, t, minor, f, z, keep⟩ : It)]) :: y'.s :: [] :: x'.s :: [(r, .cells #[.bool true, .slice none 0 0, .nilFunc, g' 0, g' 1, g' 2, g' 3, g' 4, g' 5, g' 6, g' 7, g' 8, .slice none 0 0] 51 (0, 0))] :: H) [1, 2, 0, 3, 4] 5 rfl rfl ?_
      exact At.ret Tryz.func25 rfl rfl (⟨its ++ [(⟨200, m, t, minor, f, z, keep⟩ : It)], y', .over, x', g', by rw [hy', ho, List.map_append]; rfl, by rw [List.map_append]; simp only [List.map_cons, List.map_nil, It.pl, hz, hk]; exact hq.1, trivial, (congrArg Prod.snd hq.2).symm, fun h => (by cases h), rfl, rfl⟩)
theorem rph_cases {ph : Rph} (h : ph.isOver = false) : ph = .head ∨ ∃ m t minor f keep long body, ph = .rest m t minor f keep long body := by
  cases ph with
  | over => cases h
  | head => exact .inl rfl
  | rest m t minor f keep long body => exact .inr ⟨_, _, _, _, _, _, _, rfl⟩
theorem rdpush_ok {w0 : World} {base : Nat} {H : List Seg} {r : Nat} {x : Sl tyB 5} {ph : Rph} {g : Nat → Value} {A : Option Addr} {C : Nat} {l : List UInt8} (h : Rd tyB w0 base H A C l) (hno : ph.isOver = false) (hok : okPh ph x.l) (hsz : x.l.length + l.length ≤ 999990) (T : Tabs w0 base) :
    SCalls Tryz.prog 25 [.pointer (some ⟨r, 0, none⟩), .slice A l.length C] w0 base (ph.s :: x.s :: rdC r ph x (.slice none 0 0) g :: H) (fun v H' => ∃ (its : List It) (o : Sl tyItem 49) (ph' : Rph) (x' : Sl tyB 5) (g' : Nat → Value), o.l = its.map It.v ∧ its.map It.pl = (runF (x.l ++ l)).1 ∧ okPh ph' x'.l ∧ ph'.isOver = (runF (x.l ++ l)).2.2 ∧ (ph'.isOver = false → x'.l = (runF (x.l ++ l)).2.1) ∧ v = .tuple #[.slice o.A o.l.length o.C, int 0] ∧ H' = itS its :: o.s :: ph'.s :: x'.s :: rdC r ph' x' (.slice none 0 0) g' :: H) := by
  rcases rph_cases hno with rfl | ⟨m, t, minor, f, keep, long, body, rfl⟩
  · exact push_gen (ph := .head) (g := g) h (fun _ => rfl) trivial rfl hsz T
  · exact push_gen (ph := .rest m t minor f keep long body) (g := g) h (fun _ => rfl) ((head_app (by rw [hok.1]; simp)).trans hok.1) rfl hsz T
set_option maxHeartbeats 400000 in
theorem push_over {w0 : World} {base : Nat} {H : List Seg} {r : Nat} {a1 a3 a4 a5 a6 a7 a8 a9 a10 a11 a12 : Value} {A : Option Addr} {C : Nat} {l : List UInt8} :
    SCalls Tryz.prog 25 [.pointer (some ⟨r, 0, none⟩), .slice A l.length C] w0 base ([(r, .cells #[.bool true, a1, .nilFunc, a3, a4, a5, a6, a7, a8, a9, a10, a11, a12] 51 (0, 0))] :: H) (fun v H' => v = .tuple #[.slice none 0 0, int 9] ∧ H' = [(r, .cells #[.bool true, a1, .nilFunc, a3, a4, a5, a6, a7, a8, a9, a10, a11, a12] 51 (0, 0))] :: H) := by
  refine SCalls.of_walk (n := 63) Tryz.func25 rfl rfl rfl fun cs => ?_
  refine At.seq ?_
  refine At.region ?_
  refine AtL.assign (.inl rfl) rfl rfl ?_
  refine AtL.assign (.inl rfl) rfl rfl ?_
  refine AtL.done ?_
  refine At.seq ?_
  refine At.block ?_
  refine At.seq ?_
  refine At.region ?_
  refine AtL.move (.inl rfl) rfl rfl ?_
  refine AtL.eqPtrNil Tryz.underlying34 (.inl rfl) rfl rfl rfl ?_
  refine AtL.move (.inl rfl) rfl rfl ?_
  refine AtL.move (.inr ⟨_, _, _, rfl, rfl, rfl, rfl⟩) rfl rfl ?_
  refine AtL.nilCheck (.inr ⟨_, _, _, rfl, rfl, rfl, rfl⟩) rfl rfl ?_
  refine AtL.fieldAddrB tf_fo51_0 (.inr ⟨_, _, _, rfl, rfl, rfl, rfl⟩) rfl rfl rfl ?_
  refine AtL.load tf_flat4 (.inr ⟨_, _, _, rfl, rfl, rfl, rfl⟩) rfl rfl (Cell.own 0 0 rfl rfl rfl) ?_
  refine AtL.not (.inr ⟨_, _, _, rfl, rfl, rfl, rfl⟩) rfl rfl ?_
  refine AtL.pickF (.inl rfl) rfl rfl rfl ?_
  refine AtL.assign (.inl rfl) rfl rfl ?_
  refine AtL.done ?_
  refine At.condF rfl ?_
  refine At.seq ?_
  refine At.region ?_
  refine AtL.move (.inl rfl) rfl rfl ?_
  refine AtL.nilCheck (.inl rfl) rfl rfl ?_
  refine AtL.fieldAddrB tf_fo51_2 (.inl rfl) rfl rfl rfl ?_
  refine AtL.load tf_flat23 (.inl rfl) rfl rfl (Cell.own 0 0 rfl rfl rfl) ?_
  refine AtL.eqNilFunc Tryz.underlying23 (.inl rfl) rfl rfl rfl ?_
  refine AtL.assign (.inl rfl) rfl rfl ?_
  refine AtL.done ?_
  refine At.condT rfl ?_
  refine At.seq ?_
  refine At.region ?_
  refine AtL.assign (.inl rfl) rfl rfl ?_
  refine AtL.assign (.inl rfl) rfl rfl ?_
  refine AtL.done ?_
  exact At.ret Tryz.func25 rfl rfl (⟨rfl, rfl⟩)
end Go.Proofs.YtlkdmbpbjhjkfaaGreatDoor
namespace Go.Proofs.YtlkdmbpbjhjkfaaGreatDoor
set_option linter.unusedVariables false
set_option linter.unusedSimpArgs false
set_option maxRecDepth 100000
theorem rdnew2 {w0 : World} {base : Nat} {H : List Seg} : SCalls Tryz.prog 21 [] w0 base H (fun v H' => ∃ (r : Nat) (ph : Rph) (x : Sl tyB 5) (g : Nat → Value), ph = .head ∧ x = Sl.nil ∧ v = .pointer (some ⟨r, 0, none⟩) ∧ H' = ph.s :: x.s :: rdC r ph x (.slice none 0 0) g :: H) := by
  refine rdnew_ok.flatR ?_
  rintro v H1 ⟨r, g, rfl, rfl⟩
  exact ⟨_, by show (rdC r .head Sl.nil (.slice none 0 0) g :: H).flatten.Perm ([] :: [] :: rdC r .head Sl.nil (.slice none 0 0) g :: H).flatten; simp, r, .head, Sl.nil, g, rfl, rfl, rfl, rfl⟩
structure RdOk (ph : Rph) (x : Sl tyB 5) (b : List UInt8) (o : Bool) : Prop where
  ok : okPh ph x.l
  over : ph.isOver = o
  kept : o = false → x.l = b
theorem RdOk.new {ph : Rph} {x : Sl tyB 5} (h1 : ph = .head) (h2 : x = Sl.nil) : RdOk ph x [] false := by
  subst h1; subst h2
  exact ⟨by show headF14 [] = .wait; rw [headF14]; rfl, rfl, fun _ => rfl⟩
theorem push1 {w0 : World} {base : Nat} {H : List Seg} {r : Nat} {x : Sl tyB 5} {ph : Rph} {g : Nat → Value} {A : Option Addr} {C : Nat} {l b rst bd : List UInt8} {st : Int} {hd : HeadV} {kp ov : Bool} (h : Rd tyB w0 base H A C l) (hr : RdOk ph x b false) (hk : runF (b ++ l) = ([⟨st, hd, bd, kp⟩], rst, ov)) (hsz : b.length + l.length ≤ 999990) (T : Tabs w0 base) :
    SCalls Tryz.prog 25 [.pointer (some ⟨r, 0, none⟩), .slice A l.length C] w0 base (ph.s :: x.s :: rdC r ph x (.slice none 0 0) g :: H) (fun v H' => ∃ (f : Sl tyField 78) (z : Sl tyB 5) (o : Sl tyItem 49) (ph' : Rph) (x' : Sl tyB 5) (g' : Nat → Value), f.l = hd.fs ∧ z.l = bd ∧ o.l = [(st, hd.m, hd.t, hd.minor, f.v, z.v, kp)] ∧ RdOk ph' x' rst ov ∧ v = .tuple #[.slice o.A o.l.length o.C, int 0] ∧ H' = f.s :: z.s :: o.s :: ph'.s :: x'.s :: rdC r ph' x' (.slice none 0 0) g' :: H) := by
  have hx := hr.kept rfl
  refine (rdpush_ok h hr.over hr.ok (by rw [hx]; exact hsz) T).flatR ?_
  rintro v H1 ⟨its, o, ph', x', g', ho, hp, hok, hov, hkp, rfl, rfl⟩
  rw [hx, hk] at hp hov hkp
  match its, hp with
  | [i], hp =>
    obtain ⟨ist, im, it, imi, f, z, ik⟩ := i
    simp only [List.map_cons, List.map_nil, It.pl, List.cons.injEq, and_true, ItV.mk.injEq] at hp
    obtain ⟨rfl, rfl, rfl, rfl⟩ := hp
    refine ⟨f.s :: z.s :: o.s :: ph'.s :: x'.s :: rdC r ph' x' (.slice none 0 0) g' :: H, ?_, f, z, o, ph', x', g', rfl, rfl, ho, ⟨hok, hov, fun h => hkp (hov.trans h)⟩, rfl, rfl⟩
    simp [itS]
theorem pushE {w0 : World} {base : Nat} {H : List Seg} {r : Nat} {x : Sl tyB 5} {ph : Rph} {g : Nat → Value} {A : Option Addr} {C : Nat} {l b : List UInt8} (hr : RdOk ph x b true) :
    SCalls Tryz.prog 25 [.pointer (some ⟨r, 0, none⟩), .slice A l.length C] w0 base (ph.s :: x.s :: rdC r ph x (.slice none 0 0) g :: H) (fun v H' => v = .tuple #[.slice none 0 0, int 9] ∧ H' = ph.s :: x.s :: rdC r ph x (.slice none 0 0) g :: H) := by
  have ho := hr.over
  cases ph with
  | over =>
    refine SCalls.pick (H' := rdC r .over x (.slice none 0 0) g :: [] :: x.s :: H) [2, 0, 1] 3 rfl rfl ((push_over (H := [] :: x.s :: H)).permR ?_)
    rintro v H' ⟨rfl, rfl⟩
    exact ⟨_, (List.perm_append_comm (l₁ := [rdC r .over x (.slice none 0 0) g]) (l₂ := [[], x.s])).append_right H, rfl, rfl⟩
  | head => cases ho
  | rest m t minor f keep long body => cases ho
theorem left2 {w0 : World} {base : Nat} {H : List Seg} {r : Nat} {ph : Rph} {x : Sl tyB 5} {g : Nat → Value} {b : List UInt8} {o : Bool} (hr : RdOk ph x b o) : SCalls Tryz.prog 28 [.pointer (some ⟨r, 0, none⟩)] w0 base (ph.s :: x.s :: rdC r ph x (.slice none 0 0) g :: H) (fun v H' => v = int ((if o then 0 else b.length : Nat) : Int) ∧ H' = ph.s :: x.s :: rdC r ph x (.slice none 0 0) g :: H) := by
  have e : leftN ph x = if o then 0 else b.length := by
    have ho := hr.over; have hk := hr.kept
    cases ph <;> cases o <;> first | (cases ho; done) | (simp only [leftN]; first | rfl | (rw [hk rfl]; rfl))
  refine SCalls.pick (H' := x.s :: rdC r ph x (.slice none 0 0) g :: ph.s :: H) [1, 2, 0] 3 rfl rfl ((rdleft_ok (H := ph.s :: H)).permR ?_)
  rintro v H' ⟨rfl, rfl⟩
  refine ⟨_, (List.perm_append_comm (l₁ := [x.s, rdC r ph x (.slice none 0 0) g]) (l₂ := [ph.s])).append_right H, by rw [e], rfl⟩
theorem over2 {w0 : World} {base : Nat} {H : List Seg} {r : Nat} {ph : Rph} {x : Sl tyB 5} {g : Nat → Value} {b : List UInt8} {o : Bool} (hr : RdOk ph x b o) : SCalls Tryz.prog 29 [.pointer (some ⟨r, 0, none⟩)] w0 base (ph.s :: x.s :: rdC r ph x (.slice none 0 0) g :: H) (fun v H' => v = .bool o ∧ H' = ph.s :: x.s :: rdC r ph x (.slice none 0 0) g :: H) := by
  refine SCalls.pick (H' := x.s :: rdC r ph x (.slice none 0 0) g :: ph.s :: H) [1, 2, 0] 3 rfl rfl ((rdover_ok (H := ph.s :: H)).permR ?_)
  rintro v H' ⟨rfl, rfl⟩
  exact ⟨_, (List.perm_append_comm (l₁ := [x.s, rdC r ph x (.slice none 0 0) g]) (l₂ := [ph.s])).append_right H, by rw [hr.over], rfl⟩
end Go.Proofs.YtlkdmbpbjhjkfaaGreatDoor
namespace Go.Proofs.YtlkdmbpbjhjkfaaGreatDoor
set_option linter.unusedVariables false
set_option linter.unusedSimpArgs false
set_option maxRecDepth 100000
def linesG14 : Nat → List UInt8 → Option (List (List UInt8))
  | 0, _ => none
  | n + 1, b => match cutCR b with
    | none => none
    | some (l, r) => if l.any crlf then none else if l = [] then (if r = [] then some [] else none) else (linesG14 n r).map (l :: ·)
theorem linesG14_eq (n : Nat) (b : List UInt8) (h : b.length < n) : linesF b = linesG14 n b := by
  induction n generalizing b with
  | zero => omega
  | succ n ih =>
    rw [linesF, linesG14]
    split
    · rename_i h1; simp only [h1]
    · rename_i l r h1
      simp only [h1]
      have := congrArg List.length (cutCR_len h1)
      simp at this
      rw [ih r (by omega)]
def parseG14 (b : List UInt8) : HeadV × Int :=
  if 4096 < b.length then (.zero, 431)
  else match linesG14 (b.length + 1) b with
    | none => (.zero, 400)
    | some [] => (.zero, 400)
    | some (l0 :: ls) => headF l0 ls
theorem parse_eq14 (b : List UInt8) : parseF b = parseG14 b := by
  rw [parseF, parseG14, linesG14_eq (b.length + 1) b (by omega)]
  cases linesG14 (b.length + 1) b with
  | none => rfl
  | some q => cases q <;> rfl
def gtB : List UInt8 := [71, 69, 84, 32, 47, 32, 72, 84, 84, 80, 47, 49, 46, 48, 13, 10, 67, 111, 110, 110, 101, 99, 116, 105, 111, 110, 58, 32, 107, 101, 101, 112, 45, 97, 108, 105, 118, 101, 13, 10, 13, 10]
def gtH : HeadV := (⟨([71, 69, 84] : List UInt8), ([47] : List UInt8), 0, [(([67, 111, 110, 110, 101, 99, 116, 105, 111, 110] : List UInt8), ([107, 101, 101, 112, 45, 97, 108, 105, 118, 101] : List UInt8))]⟩ : HeadV)
theorem gt_head : headF14 gtB = .ready gtH 42 0 true := by
  have hi : Lib.index gtB CR2 = 38 := by decide +kernel
  have hp : parseF gtB = (gtH, 200) := by rw [parse_eq14]; decide +kernel
  have ht : gtB.take ((38 : Int).toNat + 4) = gtB := by decide +kernel
  have hl : lengthF gtH.fs = (-1, 200) := by decide +kernel
  rw [headF14, hi, if_neg (by decide), askR, ht, hp]
  dsimp only
  rw [if_neg (by decide), if_neg (by decide +kernel), hl]
  dsimp only
  rw [if_neg (by decide), if_neg (by decide +kernel)]
  have hk : keepF gtH.fs gtH.minor = true := by decide +kernel
  rw [hk]; rfl
theorem gt_len : gtB.length = 42 := rfl
theorem run_nil14 : runF [] = ([], [], false) := run_wait (by rw [headF14]; rfl)
theorem wait_one (c : UInt8) : headF14 [c] = .wait := by
  have hi : Lib.index [c] CR2 = -1 := by
    rcases Lib.index_spec [c] CR2 with ⟨h, _⟩ | ⟨i, h, _, _, _⟩
    · exact h
    · have := Lib.index_room [c] CR2 (by omega)
      have e : CR2.length = 4 := rfl
      simp only [List.length_cons, List.length_nil] at this
      omega
  rw [headF14, hi, if_pos (by decide), if_neg (by simp)]
theorem get_run (x : List UInt8) (i : List ItV) (r : List UInt8) (o : Bool) (h : runF x = (i, r, o)) : runF (gtB ++ x) = (⟨200, gtH, [], true⟩ :: i, r, o) := by
  have hh := (head_app (x := x) (by rw [gt_head]; simp)).trans gt_head
  have e : (gtB ++ x).drop (42 + 0) = x := by
    have := List.drop_left' (l₁ := gtB) (l₂ := x) gt_len; exact this
  rw [run_more hh (by rw [List.length_append, gt_len]; omega), e, h, List.take_zero]
theorem aw1 : runF ([] ++ (gtB ++ [71])) = ([⟨200, gtH, [], true⟩], [71], false) := get_run [71] [] [71] false (run_wait (wait_one 71))
theorem aw2 : runF ([71] ++ subl gtB 1 gtB.length) = ([⟨200, gtH, [], true⟩], [], false) := by
  rw [show [71] ++ subl gtB 1 gtB.length = gtB ++ [] by decide +kernel]
  exact get_run [] [] [] false run_nil14
end Go.Proofs.YtlkdmbpbjhjkfaaGreatDoor
namespace Go.Proofs.YtlkdmbpbjhjkfaaGreatDoor
set_option linter.unusedVariables false
set_option linter.unusedSimpArgs false
set_option maxRecDepth 100000
set_option maxHeartbeats 400000 in
theorem get14_ok {w0 : World} {base : Nat} {H : List Seg}  :
    SCalls Tryz.prog 31 [] w0 base (H) (fun v H' => ∃ x : Sl tyB 5, x.l = gtB ∧ v = .slice x.A x.l.length x.C ∧ H' = x.s :: H) := by
  refine SCalls.of_walk (n := 3) Tryz.func31 rfl rfl rfl fun cs => ?_
  refine At.seq ?_
  refine At.region ?_
  refine AtL.assign (.inl rfl) rfl rfl ?_
  refine AtL.done ?_
  refine At.seq ?_
  refine At.region ?_
  refine AtL.buildSlice (cs := [.int .u8 71, .int .u8 69, .int .u8 84, .int .u8 32, .int .u8 47, .int .u8 32, .int .u8 72, .int .u8 84, .int .u8 84, .int .u8 80, .int .u8 47, .int .u8 49, .int .u8 46, .int .u8 48, .int .u8 13, .int .u8 10, .int .u8 67, .int .u8 111, .int .u8 110, .int .u8 110, .int .u8 101, .int .u8 99, .int .u8 116, .int .u8 105, .int .u8 111, .int .u8 110, .int .u8 58, .int .u8 32, .int .u8 107, .int .u8 101, .int .u8 101, .int .u8 112, .int .u8 45, .int .u8 97, .int .u8 108, .int .u8 105, .int .u8 118, .int .u8 101, .int .u8 13, .int .u8 10, .int .u8 13, .int .u8 10]) Tryz.underlying22 tf_zero5 tf_sz5 rfl rfl (.inl rfl) rfl rfl rfl ?_
  intro b1
  refine AtL.convSl1 (l := [71, 69, 84, 32, 47, 32, 72, 84, 84, 80, 47, 49, 46, 48, 13, 10, 67, 111, 110, 110, 101, 99, 116, 105, 111, 110, 58, 32, 107, 101, 101, 112, 45, 97, 108, 105, 118, 101, 13, 10, 13, 10]) 0 Tryz.underlying22 Tryz.underlying5 rfl rfl rfl (by decide) (.inl rfl) rfl rfl ?_
  intro s2 o3
  refine AtL.assign (.inl rfl) rfl rfl ?_
  refine AtL.done ?_
  exact At.ret Tryz.func31 rfl rfl (⟨⟨(some ⟨b1, 0, none⟩), 42, [71, 69, 84, 32, 47, 32, 72, 84, 84, 80, 47, 49, 46, 48, 13, 10, 67, 111, 110, 110, 101, 99, 116, 105, 111, 110, 58, 32, 107, 101, 101, 112, 45, 97, 108, 105, 118, 101, 13, 10, 13, 10], s2, o3⟩, rfl, rfl, rfl⟩)
set_option maxHeartbeats 400000 in
theorem awake14_ok {w0 : World} {base : Nat} {H : List Seg} (T : Tabs w0 base) :
    SCalls Tryz.prog 23 [] w0 base (H) (fun v H' => v = .bool true ∧ H' = H) := by
  have hgl := gt_len
  refine SCalls.of_walk (n := 68) Tryz.func23 rfl rfl rfl fun cs => ?_
  refine At.seq ?_
  refine At.region ?_
  refine AtL.assign (.inl rfl) rfl rfl ?_
  refine AtL.done ?_
  refine At.seq ?_
  refine At.region ?_
  refine AtL.call tf_body21 (.inl rfl) rfl rfl rdnew2 ?_
  rintro _ _ ⟨r1, ph2, x3, g4, h5, h6, rfl, rfl⟩
  have hr7 := RdOk.new h5 h6
  refine AtL.assign (.inl rfl) rfl rfl ?_
  refine AtL.done ?_
  refine At.seq ?_
  refine At.seq ?_
  refine At.region ?_
  refine AtL.move (.inl rfl) rfl rfl ?_
  refine AtL.eqPtrNil Tryz.underlying34 (.inl rfl) rfl rfl rfl ?_
  refine AtL.done ?_
  refine At.condF rfl ?_
  refine At.skip ?_
  refine At.seq ?_
  refine At.region ?_
  refine AtL.move (.inl rfl) rfl rfl ?_
  refine AtL.call tf_body31 (.inl rfl) rfl rfl get14_ok ?_
  rintro _ _ ⟨⟨A8, C9, l10, s11, o12⟩, hx13, rfl, rfl⟩
  obtain rfl : gtB = l10 := hx13.symm
  refine AtL.buildSlice (cs := [.int .u8 71]) Tryz.underlying22 tf_zero5 tf_sz5 rfl rfl (.inl rfl) rfl rfl rfl ?_
  intro b14
  refine AtL.own1 tyB (l := ([71] : List UInt8)) rfl rfl (by first | decide | simp) ?_
  intro s15 o16
  refine AtL.append (l := gtB) (news := [71]) 1 tf_el22 rfl o12 (o16.rd (i := 0) rfl) (by first | omega | (simp only [List.length_append, List.length_cons, List.length_nil]; omega) | (simp; done) | (simp; omega)) (.inl rfl) rfl rfl rfl ?_
  intro A17 C18 s19 o20
  refine AtL.pick (H' := ph2.s :: x3.s :: rdC r1 ph2 x3 (.slice none 0 0) g4 :: s15 :: s19 :: H) [2, 3, 4, 0, 1] 5 rfl rfl ?_
  refine AtL.call tf_body25 (.inl rfl) rfl rfl (push1 (l := gtB ++ [71]) (o20.rd (i := 1) rfl) hr7 aw1 (by decide) T) ?_
  rintro _ _ ⟨f21, z22, o23, ph24, x25, g26, hf27, hz28, ho29, hr30, rfl, rfl⟩
  have ho29l : o23.l.length = 1 := by rw [ho29]; rfl
  have ho29g : o23.l.getD 0 ((0, [], [], 0, ⟨none, 0, []⟩, ⟨none, 0, []⟩, false) : Int × List UInt8 × List UInt8 × Int × Vs (List UInt8 × List UInt8) × Vs UInt8 × Bool) = (200, gtH.m, gtH.t, (gtH.minor : Int), (⟨f21.A, f21.C, gtH.fs⟩ : Vs (List UInt8 × List UInt8)), (⟨z22.A, z22.C, []⟩ : Vs UInt8), true) := by rw [ho29]; simp only [List.getD_cons_zero, Sl.v, hf27, hz28]
  have ho29e : ∀ x ∈ o23.l, Rd tyField w0 base (f21.s :: z22.s :: H) x.2.2.2.2.1.A x.2.2.2.2.1.C x.2.2.2.2.1.l ∧ Rd tyB w0 base (f21.s :: z22.s :: H) x.2.2.2.2.2.1.A x.2.2.2.2.2.1.C x.2.2.2.2.2.1.l := by rw [ho29]; exact (el_cons (P := fun (x : (Int × List UInt8 × List UInt8 × Int × Vs (List UInt8 × List UInt8) × Vs UInt8 × Bool)) => Rd tyField w0 base (f21.s :: z22.s :: H) x.2.2.2.2.1.A x.2.2.2.2.1.C x.2.2.2.2.1.l ∧ Rd tyB w0 base (f21.s :: z22.s :: H) x.2.2.2.2.2.1.A x.2.2.2.2.2.1.C x.2.2.2.2.2.1.l) ⟨(f21.own.rd (H := f21.s :: z22.s :: H) (i := 0) rfl), (z22.own.rd (H := f21.s :: z22.s :: H) (i := 1) rfl)⟩ el_nil)
  refine AtL.move (.inl rfl) rfl rfl ?_
  refine AtL.extract (.inl rfl) rfl rfl rfl ?_
  refine AtL.extract (.inl rfl) rfl rfl rfl ?_
  refine AtL.assign (.inl rfl) rfl rfl ?_
  refine AtL.assign (.inl rfl) rfl rfl ?_
  refine AtL.done ?_
  refine At.seq ?_
  refine At.region ?_
  refine AtL.move (.inl rfl) rfl rfl ?_
  refine AtL.pick (H' := ph24.s :: x25.s :: rdC r1 ph24 x25 (.slice none 0 0) g26 :: f21.s :: z22.s :: o23.s :: s15 :: s19 :: H) [3, 4, 5, 0, 1, 2, 6, 7] 8 rfl rfl ?_
  refine AtL.call tf_body28 (.inl rfl) rfl rfl (left2 hr30) ?_
  rintro _ _ ⟨rfl, rfl⟩
  refine AtL.assign (.inl rfl) rfl rfl ?_
  refine AtL.done ?_
  refine At.seq ?_
  refine At.region ?_
  refine AtL.move (.inl rfl) rfl rfl ?_
  refine AtL.call tf_body31 (.inl rfl) rfl rfl get14_ok ?_
  rintro _ _ ⟨⟨A31, C32, l33, s34, o35⟩, hx36, rfl, rfl⟩
  obtain rfl : gtB = l33 := hx36.symm
  have hleo39 := Own.le_cap o35
  refine AtL.sliceO 1 gtB.length C32 o35 (evBound_some rfl rfl) rfl rfl (by intro h; cases h) (by decide) (by decide) (by omega) (Nat.le_refl _) Tryz.underlying22 tf_sz5 (.inl rfl) rfl rfl ?_
  intro A37 C38 o39
  clear hleo39
  have hlo39 : (subl gtB 1 gtB.length).length = gtB.length - 1 := subl_len (by decide)
  refine AtL.pick (H' := ph24.s :: x25.s :: rdC r1 ph24 x25 (.slice none 0 0) g26 :: s34 :: f21.s :: z22.s :: o23.s :: s15 :: s19 :: H) [1, 2, 3, 0, 4, 5, 6, 7, 8] 9 rfl rfl ?_
  refine AtL.call tf_body25 (.inl rfl) rfl rfl (push1 (l := subl gtB 1 gtB.length) (o39.rd (i := 0) rfl) hr30 aw2 (by decide) T) ?_
  rintro _ _ ⟨f40, z41, o42, ph43, x44, g45, hf46, hz47, ho48, hr49, rfl, rfl⟩
  have ho48l : o42.l.length = 1 := by rw [ho48]; rfl
  have ho48g : o42.l.getD 0 ((0, [], [], 0, ⟨none, 0, []⟩, ⟨none, 0, []⟩, false) : Int × List UInt8 × List UInt8 × Int × Vs (List UInt8 × List UInt8) × Vs UInt8 × Bool) = (200, gtH.m, gtH.t, (gtH.minor : Int), (⟨f40.A, f40.C, gtH.fs⟩ : Vs (List UInt8 × List UInt8)), (⟨z41.A, z41.C, []⟩ : Vs UInt8), true) := by rw [ho48]; simp only [List.getD_cons_zero, Sl.v, hf46, hz47]
  have ho48e : ∀ x ∈ o42.l, Rd tyField w0 base (f40.s :: z41.s :: H) x.2.2.2.2.1.A x.2.2.2.2.1.C x.2.2.2.2.1.l ∧ Rd tyB w0 base (f40.s :: z41.s :: H) x.2.2.2.2.2.1.A x.2.2.2.2.2.1.C x.2.2.2.2.2.1.l := by rw [ho48]; exact (el_cons (P := fun (x : (Int × List UInt8 × List UInt8 × Int × Vs (List UInt8 × List UInt8) × Vs UInt8 × Bool)) => Rd tyField w0 base (f40.s :: z41.s :: H) x.2.2.2.2.1.A x.2.2.2.2.1.C x.2.2.2.2.1.l ∧ Rd tyB w0 base (f40.s :: z41.s :: H) x.2.2.2.2.2.1.A x.2.2.2.2.2.1.C x.2.2.2.2.2.1.l) ⟨(f40.own.rd (H := f40.s :: z41.s :: H) (i := 0) rfl), (z41.own.rd (H := f40.s :: z41.s :: H) (i := 1) rfl)⟩ el_nil)
  refine AtL.move (.inl rfl) rfl rfl ?_
  refine AtL.extract (.inl rfl) rfl rfl rfl ?_
  refine AtL.extract (.inl rfl) rfl rfl rfl ?_
  refine AtL.assign (.inl rfl) rfl rfl ?_
  refine AtL.assign (.inl rfl) rfl rfl ?_
  refine AtL.done ?_
  refine At.seq ?_
  refine At.region ?_
  refine AtL.move (.inl rfl) rfl rfl ?_
  refine AtL.eqi (.inl rfl) rfl rfl rfl ?_
  refine AtL.move (.inl rfl) rfl rfl ?_
  refine AtL.move (.inr ⟨_, _, _, rfl, rfl, rfl, rfl⟩) rfl rfl ?_
  refine AtL.eqi (.inr ⟨_, _, _, rfl, rfl, rfl, rfl⟩) rfl rfl rfl ?_
  refine AtL.pickT (.inl rfl) rfl rfl rfl ?_
  refine AtL.move (.inl rfl) rfl rfl ?_
  refine AtL.move (.inr ⟨_, _, _, rfl, rfl, rfl, rfl⟩) rfl rfl ?_
  refine AtL.eqi (.inr ⟨_, _, _, rfl, rfl, rfl, rfl⟩) rfl rfl rfl ?_
  refine AtL.pickT (.inl rfl) rfl rfl rfl ?_
  refine AtL.move (.inl rfl) rfl rfl ?_
  refine AtL.join 4 (E' := [(41, .bool (decide ((o23.l.length : Int) = 1))), (2, .slice o23.A o23.l.length o23.C), (5, .slice o42.A o42.l.length o42.C)]) (H' := f40.s :: z41.s :: o42.s :: ph43.s :: x44.s :: rdC r1 ph43 x44 (.slice none 0 0) g45 :: s34 :: f21.s :: z22.s :: o23.s :: s15 :: s19 :: H) (fun J => ?_) ?_
  · refine AtL.split (t := 37) rfl ?_ ?_
    · intro hs37
      have hs37 : (([71]).length : Int) = 1 := of_decide_eq_true hs37
      refine AtL.move (.inr ⟨_, _, _, rfl, rfl, rfl, rfl⟩) rfl rfl ?_
      refine AtL.lenL Tryz.underlying40 (.inr ⟨_, _, _, rfl, rfl, rfl, rfl⟩) rfl rfl ?_
      refine AtL.eqi (.inr ⟨_, _, _, rfl, rfl, rfl, rfl⟩) rfl rfl rfl ?_
      refine AtL.pickT (.inl rfl) rfl rfl rfl ?_
      exact J _ (by exact ⟨(boolIs (by clear J; first | (simp [hs37]; done) | (simp_all; done) | grind)), rfl, rfl, trivial⟩)
    · intro hs37
      have hs37 : ¬ ((([71]).length : Int) = 1) := of_decide_eq_false hs37
      exfalso; revert hs37; first | decide | (simp; done) | (intro h9; exact absurd (by first | omega | (simp only [*]; rfl) | (simp only [*]; decide)) h9) | (intro h9; simp [*] at h9; done) | (intro h9; simp [*, Sl.v] at h9; done)
  · skip
    refine AtL.move (.inl rfl) rfl rfl ?_
    refine AtL.join 6 (E' := [(48, .bool (decide (((o23.l.getD 0 ((0, [], [], 0, ⟨none, 0, []⟩, ⟨none, 0, []⟩, false) : Int × List UInt8 × List UInt8 × Int × Vs (List UInt8 × List UInt8) × Vs UInt8 × Bool)).1) = 200))), (2, .slice o23.A o23.l.length o23.C), (5, .slice o42.A o42.l.length o42.C)]) (H' := f40.s :: z41.s :: o42.s :: ph43.s :: x44.s :: rdC r1 ph43 x44 (.slice none 0 0) g45 :: s34 :: f21.s :: z22.s :: o23.s :: s15 :: s19 :: H) (fun J => ?_) ?_
    · refine AtL.split (t := 42) rfl ?_ ?_
      · intro hs42
        have hs42 : (o23.l.length : Int) = 1 := of_decide_eq_true hs42
        refine AtL.move (.inr ⟨_, _, _, rfl, rfl, rfl, rfl⟩) rfl rfl ?_
        refine AtL.indexL 0 (o23.own.rd (i := 9) rfl) Tryz.underlying40 tf_sz49 (.inr ⟨_, _, _, rfl, rfl, rfl, rfl⟩) rfl rfl rfl rfl (by omega) ?_
        refine AtL.fieldAddr tf_fo49_0 (.inr ⟨_, _, _, rfl, rfl, rfl, rfl⟩) rfl rfl ?_
        refine AtL.load (v := .int .i64 ((o23.l.getD 0 ((0, [], [], 0, ⟨none, 0, []⟩, ⟨none, 0, []⟩, false) : Int × List UInt8 × List UInt8 × Int × Vs (List UInt8 × List UInt8) × Vs UInt8 × Bool)).1)) tf_flat3 (.inr ⟨_, _, _, rfl, rfl, rfl, rfl⟩) rfl rfl (Rd.cell_at (o23.own.rd (i := 9) rfl) (j := 0) (getD_some ((0, [], [], 0, ⟨none, 0, []⟩, ⟨none, 0, []⟩, false) : Int × List UInt8 × List UInt8 × Int × Vs (List UInt8 × List UInt8) × Vs UInt8 × Bool) (by omega)) rfl) ?_
        refine AtL.eqi (.inr ⟨_, _, _, rfl, rfl, rfl, rfl⟩) rfl rfl rfl ?_
        refine AtL.pickT (.inl rfl) rfl rfl rfl ?_
        exact J _ (by exact ⟨(boolIs (by clear J; first | (simp [hs42]; done) | (simp_all; done) | grind)), rfl, rfl, trivial⟩)
      · intro hs42
        have hs42 : ¬ ((o23.l.length : Int) = 1) := of_decide_eq_false hs42
        exfalso; revert hs42; first | decide | (simp; done) | (intro h9; exact absurd (by first | omega | (simp only [*]; rfl) | (simp only [*]; decide)) h9) | (intro h9; simp [*] at h9; done) | (intro h9; simp [*, Sl.v] at h9; done)
    · skip
      refine AtL.move (.inl rfl) rfl rfl ?_
      refine AtL.join 5 (E' := [(54, .bool ((o23.l.getD 0 ((0, [], [], 0, ⟨none, 0, []⟩, ⟨none, 0, []⟩, false) : Int × List UInt8 × List UInt8 × Int × Vs (List UInt8 × List UInt8) × Vs UInt8 × Bool)).2.2.2.2.2.2)), (5, .slice o42.A o42.l.length o42.C)]) (H' := f40.s :: z41.s :: o42.s :: ph43.s :: x44.s :: rdC r1 ph43 x44 (.slice none 0 0) g45 :: s34 :: f21.s :: z22.s :: o23.s :: s15 :: s19 :: H) (fun J => ?_) ?_
      · refine AtL.split (t := 49) rfl ?_ ?_
        · intro hs49
          have hs49 : ((o23.l.getD 0 ((0, [], [], 0, ⟨none, 0, []⟩, ⟨none, 0, []⟩, false) : Int × List UInt8 × List UInt8 × Int × Vs (List UInt8 × List UInt8) × Vs UInt8 × Bool)).1) = 200 := of_decide_eq_true hs49
          refine AtL.move (.inr ⟨_, _, _, rfl, rfl, rfl, rfl⟩) rfl rfl ?_
          refine AtL.indexL 0 (o23.own.rd (i := 9) rfl) Tryz.underlying40 tf_sz49 (.inr ⟨_, _, _, rfl, rfl, rfl, rfl⟩) rfl rfl rfl rfl (by omega) ?_
          refine AtL.fieldAddr tf_fo49_3 (.inr ⟨_, _, _, rfl, rfl, rfl, rfl⟩) rfl rfl ?_
          refine AtL.load (v := .bool ((o23.l.getD 0 ((0, [], [], 0, ⟨none, 0, []⟩, ⟨none, 0, []⟩, false) : Int × List UInt8 × List UInt8 × Int × Vs (List UInt8 × List UInt8) × Vs UInt8 × Bool)).2.2.2.2.2.2)) tf_flat4 (.inr ⟨_, _, _, rfl, rfl, rfl, rfl⟩) rfl rfl (Rd.cell_at (o23.own.rd (i := 9) rfl) (j := 6) (getD_some ((0, [], [], 0, ⟨none, 0, []⟩, ⟨none, 0, []⟩, false) : Int × List UInt8 × List UInt8 × Int × Vs (List UInt8 × List UInt8) × Vs UInt8 × Bool) (by omega)) rfl) ?_
          refine AtL.pickT (.inl rfl) rfl rfl rfl ?_
          exact J _ (by exact ⟨(boolIs (by clear J; first | (simp [hs49]; done) | (simp_all; done) | grind)), rfl, trivial⟩)
        · intro hs49
          have hs49 : ¬ (((o23.l.getD 0 ((0, [], [], 0, ⟨none, 0, []⟩, ⟨none, 0, []⟩, false) : Int × List UInt8 × List UInt8 × Int × Vs (List UInt8 × List UInt8) × Vs UInt8 × Bool)).1) = 200) := of_decide_eq_false hs49
          exfalso; revert hs49; first | decide | (simp; done) | (intro h9; exact absurd (by first | omega | (simp only [*]; rfl) | (simp only [*]; decide)) h9) | (intro h9; simp [*] at h9; done) | (intro h9; simp [*, Sl.v] at h9; done)
      · skip
        refine AtL.move (.inl rfl) rfl rfl ?_
        refine AtL.join 4 (E' := [(59, .bool (decide ((o42.l.length : Int) = 1))), (5, .slice o42.A o42.l.length o42.C)]) (H' := f40.s :: z41.s :: o42.s :: ph43.s :: x44.s :: rdC r1 ph43 x44 (.slice none 0 0) g45 :: s34 :: f21.s :: z22.s :: o23.s :: s15 :: s19 :: H) (fun J => ?_) ?_
        · refine AtL.split (t := 55) rfl ?_ ?_
          · intro hs55
            have hs55 : ((o23.l.getD 0 ((0, [], [], 0, ⟨none, 0, []⟩, ⟨none, 0, []⟩, false) : Int × List UInt8 × List UInt8 × Int × Vs (List UInt8 × List UInt8) × Vs UInt8 × Bool)).2.2.2.2.2.2) = true := hs55
            refine AtL.move (.inr ⟨_, _, _, rfl, rfl, rfl, rfl⟩) rfl rfl ?_
            refine AtL.lenL Tryz.underlying40 (.inr ⟨_, _, _, rfl, rfl, rfl, rfl⟩) rfl rfl ?_
            refine AtL.eqi (.inr ⟨_, _, _, rfl, rfl, rfl, rfl⟩) rfl rfl rfl ?_
            refine AtL.pickT (.inl rfl) rfl rfl rfl ?_
            exact J _ (by exact ⟨(boolIs (by clear J; first | (simp [hs55]; done) | (simp_all; done) | grind)), rfl, trivial⟩)
          · intro hs55
            have hs55 : ((o23.l.getD 0 ((0, [], [], 0, ⟨none, 0, []⟩, ⟨none, 0, []⟩, false) : Int × List UInt8 × List UInt8 × Int × Vs (List UInt8 × List UInt8) × Vs UInt8 × Bool)).2.2.2.2.2.2) = false := hs55
            exfalso; revert hs55; first | decide | (simp; done) | (intro h9; exact absurd (by first | omega | (simp only [*]; rfl) | (simp only [*]; decide)) h9) | (intro h9; simp [*] at h9; done) | (intro h9; simp [*, Sl.v] at h9; done)
        · skip
          refine AtL.move (.inl rfl) rfl rfl ?_
          refine AtL.join 7 (E' := [(67, .bool (decide ((o42.l.getD 0 ((0, [], [], 0, ⟨none, 0, []⟩, ⟨none, 0, []⟩, false) : Int × List UInt8 × List UInt8 × Int × Vs (List UInt8 × List UInt8) × Vs UInt8 × Bool)).2.1 = [71, 69, 84])))]) (H' := f40.s :: z41.s :: o42.s :: ph43.s :: x44.s :: rdC r1 ph43 x44 (.slice none 0 0) g45 :: s34 :: f21.s :: z22.s :: o23.s :: s15 :: s19 :: H) (fun J => ?_) ?_
          · refine AtL.split (t := 60) rfl ?_ ?_
            · intro hs60
              have hs60 : (o42.l.length : Int) = 1 := of_decide_eq_true hs60
              refine AtL.move (.inr ⟨_, _, _, rfl, rfl, rfl, rfl⟩) rfl rfl ?_
              refine AtL.indexL 0 (o42.own.rd (i := 2) rfl) Tryz.underlying40 tf_sz49 (.inr ⟨_, _, _, rfl, rfl, rfl, rfl⟩) rfl rfl rfl rfl (by omega) ?_
              refine AtL.fieldAddr tf_fo49_1 (.inr ⟨_, _, _, rfl, rfl, rfl, rfl⟩) rfl rfl ?_
              refine AtL.fieldAddr tf_fo47_0 (.inr ⟨_, _, _, rfl, rfl, rfl, rfl⟩) rfl rfl ?_
              refine AtL.load (v := str ((o42.l.getD 0 ((0, [], [], 0, ⟨none, 0, []⟩, ⟨none, 0, []⟩, false) : Int × List UInt8 × List UInt8 × Int × Vs (List UInt8 × List UInt8) × Vs UInt8 × Bool)).2.1)) tf_flat9 (.inr ⟨_, _, _, rfl, rfl, rfl, rfl⟩) rfl rfl (Rd.cell_at (o42.own.rd (i := 2) rfl) (j := 1) (getD_some ((0, [], [], 0, ⟨none, 0, []⟩, ⟨none, 0, []⟩, false) : Int × List UInt8 × List UInt8 × Int × Vs (List UInt8 × List UInt8) × Vs UInt8 × Bool) (by omega)) rfl) ?_
              refine AtL.eqs (a := (o42.l.getD 0 ((0, [], [], 0, ⟨none, 0, []⟩, ⟨none, 0, []⟩, false) : Int × List UInt8 × List UInt8 × Int × Vs (List UInt8 × List UInt8) × Vs UInt8 × Bool)).2.1) (b := [71, 69, 84]) (.inr ⟨_, _, _, rfl, rfl, rfl, rfl⟩) rfl rfl rfl ?_
              refine AtL.pickT (.inl rfl) rfl rfl rfl ?_
              exact J _ (by exact ⟨(boolIs (by clear J; first | (simp [hs60]; done) | (simp_all; done) | grind)), trivial⟩)
            · intro hs60
              have hs60 : ¬ ((o42.l.length : Int) = 1) := of_decide_eq_false hs60
              exfalso; revert hs60; first | decide | (simp; done) | (intro h9; exact absurd (by first | omega | (simp only [*]; rfl) | (simp only [*]; decide)) h9) | (intro h9; simp [*] at h9; done) | (intro h9; simp [*, Sl.v] at h9; done)
          · skip
            refine AtL.assign (.inl rfl) rfl rfl ?_
            refine AtL.done ?_
            refine At.pick (H' := H) [] 12 rfl rfl ?_
            exact At.ret Tryz.func23 rfl rfl (⟨by first | rfl | (simp; done) | (simp; rfl) | (simp only [*]; rfl), rfl⟩)
end Go.Proofs.YtlkdmbpbjhjkfaaGreatDoor
namespace Go.Proofs.YtlkdmbpbjhjkfaaGreatDoor
set_option linter.unusedVariables false
set_option linter.unusedSimpArgs false
set_option maxRecDepth 100000
theorem neqField_run (x y : Fld) (ox oy : Operand) (w : World) : (do eqGuard .neq 78 ox oy (tyField.val x) (tyField.val y); binOp .neq 78 (tyField.val x) (tyField.val y) : Sem Value).run Tryz.prog w = .ok (.bool (!decide (x = y))) w := by
  obtain ⟨a, c⟩ := x
  obtain ⟨d, e⟩ := y
  have hf : (Tryz.prog.fieldsOf 78).toList = [{ name := "Name", type := 9, offset := 0, embedded := false, tag := "", pkgPath := "", byteOffset := 0 }, { name := "Value", type := 9, offset := 1, embedded := false, tag := "", pkgPath := "", byteOffset := 16 }] := by kernel_rfl
  have hs : ∀ (l m : List UInt8) w, (Op.equalIn 9999 9 (str l) (str m)).run Tryz.prog w = .ok (decide (l = m)) w := fun l m w => by
    rw [str, str, run_equalIn_string w 9998 9 _ _ Tryz.underlying9, ba_toList, ba_toList, beq_dec]
  have p0 : ∀ (l m : List UInt8) w, (part 9 #[str l, str m] 0).run Tryz.prog w = .ok (str l) w := fun l m w => by simp [part, Tryz.isAgg9]
  have p1 : ∀ (l m : List UInt8) w, (part 9 #[str l, str m] 1).run Tryz.prog w = .ok (str m) w := fun l m w => by simp [part, Tryz.isAgg9]
  have he : Tryz.prog.eqGuardType Tryz.prog.depth 78 = false := by kernel_rfl
  have hu : Tryz.prog.underlying 78 = some (.struct (Tryz.prog.fieldsOf 78)) := by kernel_rfl
  have hst : Tryz.prog.stoodInHeld 78 = false := by kernel_rfl
  simp only [tyField, Sem.run_bind, run_eqGuard_agg w .neq 78 ox oy _ _ he, Result.andThen_ok, run_neq_struct, run_equalIn_agg w 9999 78 _ _ hu hst, hf, Op.eqFields]
  by_cases h1 : a = d
  · by_cases h2 : c = e
    · simp [p0, p1, hs, h1, h2]
    · simp [p0, p1, hs, h1, h2]
  · simp [p0, p1, hs, h1]
theorem take_eqF {a b : List Fld} {k : Nat} (ha : k < a.length) (hb : k < b.length) (h : a.take k = b.take k) (hk : a.getD k ([], []) = b.getD k ([], [])) : a.take (k + 1) = b.take (k + 1) := by
  rw [List.take_succ_eq_append_getElem ha, List.take_succ_eq_append_getElem hb, h]
  simp [List.getD, ha, hb] at hk
  rw [hk]
set_option maxHeartbeats 400000 in
theorem samefields_ok {w0 : World} {base : Nat} {H : List Seg} {A Aq : Option Addr} {C Cq : Nat} {fs gs : List (List UInt8 × List UInt8)} (h : Rd tyField w0 base H A C fs) (hq : Rd tyField w0 base H Aq Cq gs) :
    SCalls Tryz.prog 85 [.slice A fs.length C, .slice Aq gs.length Cq] w0 base (H) (fun v H' => v = .bool (decide (fs = gs)) ∧ H' = H) := by
  have hle0 := h.le
  have hcap0 := h.cap
  have hle1 := hq.le
  have hcap1 := hq.cap
  refine SCalls.of_walk (n := 26) Tryz.func85 rfl rfl rfl fun cs => ?_
  refine At.seq ?_
  refine At.region ?_
  refine AtL.assign (.inl rfl) rfl rfl ?_
  refine AtL.done ?_
  refine At.seq ?_
  refine At.seq ?_
  refine At.region ?_
  refine AtL.move (.inl rfl) rfl rfl ?_
  refine AtL.lenL Tryz.underlying45 (.inl rfl) rfl rfl ?_
  refine AtL.move (.inl rfl) rfl rfl ?_
  refine AtL.lenL Tryz.underlying45 (.inl rfl) rfl rfl ?_
  refine AtL.nei (.inl rfl) rfl rfl rfl ?_
  refine AtL.done ?_
  refine At.cond rfl ?_ ?_
  · intro hc1
    have hc1 : ¬ ((fs.length : Int) = (gs.length : Int)) := of_decide_eq_false (bnot_true hc1)
    refine At.seq ?_
    refine At.region ?_
    refine AtL.assign (.inl rfl) rfl rfl ?_
    refine AtL.done ?_
    exact At.ret Tryz.func85 rfl rfl (⟨congrArg Value.bool (decide_eq_false (fun h => by rw [h] at hc1; exact hc1 rfl)).symm, rfl⟩)
  · intro hc1
    have hc1 : (fs.length : Int) = (gs.length : Int) := of_decide_eq_true (bnot_false hc1)
    refine At.skip ?_
    refine At.seq ?_
    refine At.seq ?_
    refine At.region ?_
    refine AtL.assign (.inl rfl) rfl rfl ?_
    refine AtL.done ?_
    refine At.block ?_
    refine At.loop (fun (k : Nat) => [(0, .slice A fs.length C), (1, .slice Aq gs.length Cq), (5, .int .i64 (k : Int))]) (fun (k : Nat) => H) (fun (k : Nat) => k ≤ fs.length ∧ fs.take k = gs.take k) (fun (k : Nat) => fs.length - k) 0 (⟨Nat.zero_le _, rfl⟩) ⟨rfl, rfl, rfl, trivial⟩ rfl ?_
    rintro k ⟨hk, ht⟩ ihL1
    refine At.seq ?_
    refine At.seq ?_
    refine At.region ?_
    refine AtL.move (.inl rfl) rfl rfl ?_
    refine AtL.move (.inl rfl) rfl rfl ?_
    refine AtL.lenL Tryz.underlying45 (.inl rfl) rfl rfl ?_
    refine AtL.lss (.inl rfl) rfl rfl rfl ?_
    refine AtL.done ?_
    refine At.cond rfl ?_ ?_
    · intro hc2
      have hc2 : (k : Int) < (fs.length : Int) := of_decide_eq_true hc2
      refine At.skip ?_
      refine At.seq ?_
      refine At.block ?_
      refine At.seq ?_
      refine At.draw (es := []) (pv := [(0, .slice A fs.length C), (1, .int .i64 (k : Int)), (2, .pointer (some (eaddr A (k * tyField.sz)))), (3, tyField.val (fs.getD k (([], []) : List UInt8 × List UInt8))), (4, .slice Aq gs.length Cq), (5, .int .i64 (k : Int)), (6, .pointer (some (eaddr Aq (k * tyField.sz)))), (7, tyField.val (gs.getD k (([], []) : List UInt8 × List UInt8))), (8, .bool (!(decide ((fs.getD k (([], []) : List UInt8 × List UInt8)) = (gs.getD k (([], []) : List UInt8 × List UInt8))))))]) tf_mixed (by kernel_rfl) (by kernel_rfl) (by kernel_rfl) ?_
      refine ⟨⟨.inr ⟨_, rfl, rfl, .inl ⟨rfl, Do.move rfl⟩⟩, .inr ⟨_, rfl, rfl, .inl ⟨rfl, Do.move rfl⟩⟩, .inr ⟨_, rfl, rfl, .inl ⟨rfl, Do.indexL k h Tryz.underlying45 tf_sz78 rfl rfl rfl (by omega)⟩⟩, .inr ⟨_, rfl, rfl, .inl ⟨rfl, Do.loadE (n := 0) h (getD_some (([], []) : List UInt8 × List UInt8) (by omega)) rfl tf_agg78 rfl⟩⟩, .inr ⟨_, rfl, rfl, .inl ⟨rfl, Do.move rfl⟩⟩, .inr ⟨_, rfl, rfl, .inl ⟨rfl, Do.move rfl⟩⟩, .inr ⟨_, rfl, rfl, .inl ⟨rfl, Do.indexL k hq Tryz.underlying45 tf_sz78 rfl rfl rfl (by omega)⟩⟩, .inr ⟨_, rfl, rfl, .inl ⟨rfl, Do.loadE (n := 0) hq (getD_some (([], []) : List UInt8 × List UInt8) (by omega)) rfl tf_agg78 rfl⟩⟩, .inr ⟨_, rfl, rfl, .inl ⟨rfl, Do.bin (v := .bool (!decide ((fs.getD k (([], []) : List UInt8 × List UInt8)) = (gs.getD k (([], []) : List UInt8 × List UInt8))))) rfl rfl (fun w => neqField_run (fs.getD k (([], []) : List UInt8 × List UInt8)) (gs.getD k (([], []) : List UInt8 × List UInt8)) _ _ w)⟩⟩, trivial⟩, by kernel_rfl, ?_⟩
      refine At.mono (E' := [(0, .slice A fs.length C), (1, .slice Aq gs.length Cq), (5, .int .i64 (k : Int)), (25, .bool (!(decide ((fs.getD k (([], []) : List UInt8 × List UInt8)) = (gs.getD k (([], []) : List UInt8 × List UInt8))))))]) ⟨rfl, rfl, rfl, rfl, trivial⟩ ?_
      refine At.cond rfl ?_ ?_
      · intro hc3
        have hc3 : ¬ ((fs.getD k (([], []) : List UInt8 × List UInt8)) = (gs.getD k (([], []) : List UInt8 × List UInt8))) := of_decide_eq_false (bnot_true hc3)
        refine At.seq ?_
        refine At.region ?_
        refine AtL.assign (.inl rfl) rfl rfl ?_
        refine AtL.done ?_
        exact At.ret Tryz.func85 rfl rfl (⟨congrArg Value.bool (decide_eq_false (fun h => by rw [h] at hc3; exact hc3 rfl)).symm, rfl⟩)
      · intro hc3
        have hc3 : (fs.getD k (([], []) : List UInt8 × List UInt8)) = (gs.getD k (([], []) : List UInt8 × List UInt8)) := of_decide_eq_true (bnot_false hc3)
        refine At.skip ?_
        refine At.inBlock ?_
        refine At.region ?_
        refine AtL.move (.inl rfl) rfl rfl ?_
        refine AtL.add (z := (k : Int) + 1) (.inl rfl) rfl rfl rfl (w64 (by omega) (by omega)) ?_
        refine AtL.assign (.inl rfl) rfl rfl ?_
        refine AtL.done ?_
        refine ihL1 (k + 1) (⟨by omega, take_eqF (by omega) (by omega) ht (by simpa using hc3)⟩) (by omega) _ ?_
        exact ⟨rfl, rfl, (by first | rfl | exact slLen (by simp []) | exact intEq (by omega) | exact intEq (by simp []) | exact slLen (by simp []; omega)), trivial⟩
    · intro hc2
      have hc2 : ¬ ((k : Int) < (fs.length : Int)) := of_decide_eq_false hc2
      refine At.exit rfl ?_
      refine At.seq ?_
      refine At.region ?_
      refine AtL.assign (.inl rfl) rfl rfl ?_
      refine AtL.done ?_
      exact At.ret Tryz.func85 rfl rfl (⟨congrArg Value.bool (decide_eq_true (by rw [List.take_of_length_le (by omega), List.take_of_length_le (by omega)] at ht; exact ht)).symm, rfl⟩)
theorem headV_eq {a b c d : List UInt8} {n k : Int} {fs gs : List Fld} : ((⟨a, b, n, fs⟩ : HeadV) = ⟨c, d, k, gs⟩) ↔ (((a = c ∧ b = d) ∧ n = k) ∧ fs = gs) := by
  constructor
  · intro h; cases h; exact ⟨⟨⟨rfl, rfl⟩, rfl⟩, rfl⟩
  · rintro ⟨⟨⟨rfl, rfl⟩, rfl⟩, rfl⟩; rfl
set_option maxHeartbeats 400000 in
theorem samehead_ok {w0 : World} {base : Nat} {H : List Seg} {m t m2 t2 : List UInt8} {minor minor2 : Int} {A Aq : Option Addr} {C Cq : Nat} {fs gs : List (List UInt8 × List UInt8)} (h : Rd tyField w0 base H A C fs) (hq : Rd tyField w0 base H Aq Cq gs) :
    SCalls Tryz.prog 49 [.agg #[str m, str t, .int .i64 minor, .slice A fs.length C], .agg #[str m2, str t2, .int .i64 minor2, .slice Aq gs.length Cq]] w0 base (H) (fun v H' => v = .bool (decide ((⟨m, t, minor, fs⟩ : HeadV) = ⟨m2, t2, minor2, gs⟩)) ∧ H' = H) := by
  refine SCalls.of_walk (n := 31) Tryz.func49 rfl rfl rfl fun cs => ?_
  refine At.seq ?_
  refine At.region ?_
  refine AtL.box (cs := #[str m, str t, .int .i64 minor, .slice A fs.length C]) rfl (.inl rfl) rfl rfl ?_
  intro b1
  refine AtL.box (cs := #[str m2, str t2, .int .i64 minor2, .slice Aq gs.length Cq]) rfl (.inl rfl) rfl rfl ?_
  intro b2
  refine AtL.assign (.inl rfl) rfl rfl ?_
  refine AtL.done ?_
  refine At.seq ?_
  refine At.region ?_
  refine AtL.fieldAddrB tf_fo47_0 (.inl rfl) rfl rfl rfl ?_
  refine AtL.load tf_flat9 (.inl rfl) rfl rfl (Cell.own 1 0 rfl rfl rfl) ?_
  refine AtL.fieldAddrB tf_fo47_0 (.inl rfl) rfl rfl rfl ?_
  refine AtL.load tf_flat9 (.inl rfl) rfl rfl (Cell.own 0 0 rfl rfl rfl) ?_
  refine AtL.eqs (a := m) (b := m2) (.inl rfl) rfl rfl rfl ?_
  refine AtL.move (.inl rfl) rfl rfl ?_
  refine AtL.join 6 (E' := [(16, .bool (decide ((m = m2) ∧ (t = t2)))), (2, .pointer (some ⟨b1, 0, none⟩)), (3, .pointer (some ⟨b2, 0, none⟩))]) (H' := [(b2, .cells #[str m2, str t2, .int .i64 minor2, .slice Aq gs.length Cq] 47 (0, 0))] :: [(b1, .cells #[str m, str t, .int .i64 minor, .slice A fs.length C] 47 (0, 0))] :: H) (fun J => ?_) ?_
  · refine AtL.split (t := 10) rfl ?_ ?_
    · intro hs10
      have hs10 : m = m2 := of_decide_eq_true hs10
      refine AtL.fieldAddrB tf_fo47_1 (.inr ⟨_, _, _, rfl, rfl, rfl, rfl⟩) rfl rfl rfl ?_
      refine AtL.load tf_flat9 (.inr ⟨_, _, _, rfl, rfl, rfl, rfl⟩) rfl rfl (Cell.own 1 0 rfl rfl rfl) ?_
      refine AtL.fieldAddrB tf_fo47_1 (.inr ⟨_, _, _, rfl, rfl, rfl, rfl⟩) rfl rfl rfl ?_
      refine AtL.load tf_flat9 (.inr ⟨_, _, _, rfl, rfl, rfl, rfl⟩) rfl rfl (Cell.own 0 0 rfl rfl rfl) ?_
      refine AtL.eqs (a := t) (b := t2) (.inr ⟨_, _, _, rfl, rfl, rfl, rfl⟩) rfl rfl rfl ?_
      refine AtL.pickT (.inl rfl) rfl rfl rfl ?_
      exact J _ (by exact ⟨(boolIs (by clear J; first | (simp [hs10]; done) | (simp_all; done) | grind)), rfl, rfl, trivial⟩)
    · intro hs10
      have hs10 : ¬ (m = m2) := of_decide_eq_false hs10
      refine AtL.skipped rfl rfl rfl rfl rfl rfl ?_
      refine AtL.skipped rfl rfl rfl rfl rfl rfl ?_
      refine AtL.skipped rfl rfl rfl rfl rfl rfl ?_
      refine AtL.skipped rfl rfl rfl rfl rfl rfl ?_
      refine AtL.skipped rfl rfl rfl rfl rfl rfl ?_
      refine AtL.pickF (.inl rfl) rfl rfl rfl ?_
      exact J _ (by exact ⟨(boolIs (by clear J; first | (simp [hs10]; done) | (simp_all; done) | grind)), rfl, rfl, trivial⟩)
  · skip
    refine AtL.move (.inl rfl) rfl rfl ?_
    refine AtL.join 6 (E' := [(23, .bool (decide (((m = m2) ∧ (t = t2)) ∧ ((minor : Int) = minor2)))), (2, .pointer (some ⟨b1, 0, none⟩)), (3, .pointer (some ⟨b2, 0, none⟩))]) (H' := [(b2, .cells #[str m2, str t2, .int .i64 minor2, .slice Aq gs.length Cq] 47 (0, 0))] :: [(b1, .cells #[str m, str t, .int .i64 minor, .slice A fs.length C] 47 (0, 0))] :: H) (fun J => ?_) ?_
    · refine AtL.split (t := 17) rfl ?_ ?_
      · intro hs17
        have hs17 : (m = m2) ∧ (t = t2) := of_decide_eq_true hs17
        refine AtL.fieldAddrB tf_fo47_2 (.inr ⟨_, _, _, rfl, rfl, rfl, rfl⟩) rfl rfl rfl ?_
        refine AtL.load tf_flat3 (.inr ⟨_, _, _, rfl, rfl, rfl, rfl⟩) rfl rfl (Cell.own 1 0 rfl rfl rfl) ?_
        refine AtL.fieldAddrB tf_fo47_2 (.inr ⟨_, _, _, rfl, rfl, rfl, rfl⟩) rfl rfl rfl ?_
        refine AtL.load tf_flat3 (.inr ⟨_, _, _, rfl, rfl, rfl, rfl⟩) rfl rfl (Cell.own 0 0 rfl rfl rfl) ?_
        refine AtL.eqi (.inr ⟨_, _, _, rfl, rfl, rfl, rfl⟩) rfl rfl rfl ?_
        refine AtL.pickT (.inl rfl) rfl rfl rfl ?_
        exact J _ (by exact ⟨(boolIs (by clear J; first | (simp [hs17]; done) | (simp_all; done) | grind)), rfl, rfl, trivial⟩)
      · intro hs17
        have hs17 : ¬ ((m = m2) ∧ (t = t2)) := of_decide_eq_false hs17
        refine AtL.skipped rfl rfl rfl rfl rfl rfl ?_
        refine AtL.skipped rfl rfl rfl rfl rfl rfl ?_
        refine AtL.skipped rfl rfl rfl rfl rfl rfl ?_
        refine AtL.skipped rfl rfl rfl rfl rfl rfl ?_
        refine AtL.skipped rfl rfl rfl rfl rfl rfl ?_
        refine AtL.pickF (.inl rfl) rfl rfl rfl ?_
        exact J _ (by exact ⟨(boolIs (by clear J; first | (simp [hs17]; done) | (simp_all; done) | grind)), rfl, rfl, trivial⟩)
    · skip
      refine AtL.move (.inl rfl) rfl rfl ?_
      refine AtL.join 6 (E' := [(30, .bool (decide ((((m = m2) ∧ (t = t2)) ∧ ((minor : Int) = minor2)) ∧ (fs = gs))))]) (H' := [(b2, .cells #[str m2, str t2, .int .i64 minor2, .slice Aq gs.length Cq] 47 (0, 0))] :: [(b1, .cells #[str m, str t, .int .i64 minor, .slice A fs.length C] 47 (0, 0))] :: H) (fun J => ?_) ?_
      · refine AtL.split (t := 24) rfl ?_ ?_
        · intro hs24
          have hs24 : ((m = m2) ∧ (t = t2)) ∧ ((minor : Int) = minor2) := of_decide_eq_true hs24
          refine AtL.fieldAddrB tf_fo47_3 (.inr ⟨_, _, _, rfl, rfl, rfl, rfl⟩) rfl rfl rfl ?_
          refine AtL.load tf_flat45 (.inr ⟨_, _, _, rfl, rfl, rfl, rfl⟩) rfl rfl (Cell.own 1 0 rfl rfl rfl) ?_
          refine AtL.fieldAddrB tf_fo47_3 (.inr ⟨_, _, _, rfl, rfl, rfl, rfl⟩) rfl rfl rfl ?_
          refine AtL.load tf_flat45 (.inr ⟨_, _, _, rfl, rfl, rfl, rfl⟩) rfl rfl (Cell.own 0 0 rfl rfl rfl) ?_
          refine AtL.call tf_body85 (.inr ⟨_, _, _, rfl, rfl, rfl, rfl⟩) rfl rfl (samefields_ok (fs := fs) (gs := gs) (Rd.skip 2 h) (Rd.skip 2 hq)) ?_
          rintro _ _ ⟨rfl, rfl⟩
          refine AtL.pickT (.inl rfl) rfl rfl rfl ?_
          exact J _ (by exact ⟨(boolIs (by clear J; first | (simp [hs24]; done) | (simp_all; done) | grind)), trivial⟩)
        · intro hs24
          have hs24 : ¬ (((m = m2) ∧ (t = t2)) ∧ ((minor : Int) = minor2)) := of_decide_eq_false hs24
          refine AtL.skipped rfl rfl rfl rfl rfl rfl ?_
          refine AtL.skipped rfl rfl rfl rfl rfl rfl ?_
          refine AtL.skipped rfl rfl rfl rfl rfl rfl ?_
          refine AtL.skipped rfl rfl rfl rfl rfl rfl ?_
          refine AtL.skipped rfl rfl rfl rfl rfl rfl ?_
          refine AtL.pickF (.inl rfl) rfl rfl rfl ?_
          exact J _ (by exact ⟨(boolIs (by clear J; first | (simp [hs24]; done) | (simp_all; done) | grind)), trivial⟩)
      · skip
        refine AtL.assign (.inl rfl) rfl rfl ?_
        refine AtL.done ?_
        refine At.pick (H' := H) [] 2 rfl rfl ?_
        exact At.ret Tryz.func49 rfl rfl (⟨congrArg Value.bool (decide_eq_decide.2 headV_eq.symm), rfl⟩)
end Go.Proofs.YtlkdmbpbjhjkfaaGreatDoor
namespace Go.Proofs.YtlkdmbpbjhjkfaaGreatDoor
set_option linter.unusedVariables false
set_option linter.unusedSimpArgs false
set_option maxRecDepth 100000
theorem Rd.cellsPart {α : Type} {T : Ty α} {w0 : World} {base : Nat} {H : List Seg} {A : Option Addr} {C i : Nat} {l : List α} {y : α} (hr : Rd T w0 base H A C l) (hy : l[i]? = some y) (off : Nat) (cs : List Value) (hc : ∀ j v, cs[j]? = some v → (T.val y).cells[off + j]? = some v) : ∀ j v, cs[j]? = some v → Cell w0 base H (((eaddr A (i * T.sz)).add off).add j) v := fun j v hj => by
  have e : ∀ p : Addr, (p.add off).add j = p.add (off + j) := fun p => by
    unfold Addr.add
    by_cases h1 : off = 0
    · subst h1; simp
    · by_cases h2 : j = 0
      · subst h2; simp [h1]
      · simp [h1, h2, Nat.add_assoc]
  rw [e]
  exact hr.cell_at hy (hc j v hj)
def plI (x : (Int × List UInt8 × List UInt8 × Int × Vs (List UInt8 × List UInt8) × Vs UInt8 × Bool)) : ItV := ⟨x.1, ⟨x.2.1, x.2.2.1, x.2.2.2.1, x.2.2.2.2.1.l⟩, x.2.2.2.2.2.1.l, x.2.2.2.2.2.2⟩
theorem plI_v (its : List It) : (its.map It.v).map plI = its.map It.pl := by rw [List.map_map]; rfl
theorem it_el (its : List It) (w0 : World) (base : Nat) (H : List Seg) : ∀ x ∈ its.map It.v, Rd tyField w0 base (itS its :: H) x.2.2.2.2.1.A x.2.2.2.2.1.C x.2.2.2.2.1.l ∧ Rd tyB w0 base (itS its :: H) x.2.2.2.2.2.1.A x.2.2.2.2.2.1.C x.2.2.2.2.2.1.l := by
  intro x hx
  obtain ⟨i, hi, rfl⟩ := List.mem_map.1 hx
  obtain ⟨a, b, rfl⟩ := List.append_of_mem hi
  have hp : (itS (a ++ i :: b) :: H).flatten.Perm (i.f.s :: i.z.s :: (itS a ++ itS b) :: H).flatten := by
    rw [show itS (a ++ i :: b) = itS a ++ ((i.f.s ++ i.z.s) ++ itS b) by simp [itS]]
    simp only [List.flatten_cons, ← List.append_assoc]
    refine List.Perm.append_right _ (List.Perm.append_right _ ?_)
    rw [List.append_assoc]
    exact List.perm_append_comm
  exact ⟨Rd.flat hp (i.f.own.rd (i := 0) rfl), Rd.flat hp (i.z.own.rd (i := 1) rfl)⟩
theorem map_eq_of {l m : List (Int × List UInt8 × List UInt8 × Int × Vs (List UInt8 × List UInt8) × Vs UInt8 × Bool)} (hl : l.length = m.length) (h : ∀ j, j < l.length → plI (l.getD j ((0, [], [], 0, ⟨none, 0, []⟩, ⟨none, 0, []⟩, false) : Int × List UInt8 × List UInt8 × Int × Vs (List UInt8 × List UInt8) × Vs UInt8 × Bool)) = plI (m.getD j ((0, [], [], 0, ⟨none, 0, []⟩, ⟨none, 0, []⟩, false) : Int × List UInt8 × List UInt8 × Int × Vs (List UInt8 × List UInt8) × Vs UInt8 × Bool))) : l.map plI = m.map plI := by
  apply List.ext_getElem (by simp [hl])
  intro i h1 h2
  have h3 : i < l.length := by simpa using h1
  have h4 : i < m.length := by omega
  have := h i h3
  simpa [List.getD, h3, h4] using this
theorem map_ne_at {l m : List (Int × List UInt8 × List UInt8 × Int × Vs (List UInt8 × List UInt8) × Vs UInt8 × Bool)} {i : Nat} (h1 : i < l.length) (h2 : i < m.length) (h : ¬ plI (l.getD i ((0, [], [], 0, ⟨none, 0, []⟩, ⟨none, 0, []⟩, false) : Int × List UInt8 × List UInt8 × Int × Vs (List UInt8 × List UInt8) × Vs UInt8 × Bool)) = plI (m.getD i ((0, [], [], 0, ⟨none, 0, []⟩, ⟨none, 0, []⟩, false) : Int × List UInt8 × List UInt8 × Int × Vs (List UInt8 × List UInt8) × Vs UInt8 × Bool))) : ¬ l.map plI = m.map plI := fun e => h (by
  have := congrArg (fun q => q.getD i (ItV.bad 0)) e
  simpa [List.getD, h1, h2] using this)
theorem map_ne_len {l m : List (Int × List UInt8 × List UInt8 × Int × Vs (List UInt8 × List UInt8) × Vs UInt8 × Bool)} (h : ¬ (l.length : Int) = (m.length : Int)) : ¬ l.map plI = m.map plI := fun e => h (by have := congrArg List.length e; simp at this; omega)
theorem plI_eq {x y : (Int × List UInt8 × List UInt8 × Int × Vs (List UInt8 × List UInt8) × Vs UInt8 × Bool)} (h1 : x.1 = y.1) (h2 : x.2.2.2.2.2.2 = y.2.2.2.2.2.2) (h3 : (⟨x.2.1, x.2.2.1, x.2.2.2.1, x.2.2.2.2.1.l⟩ : HeadV) = ⟨y.2.1, y.2.2.1, y.2.2.2.1, y.2.2.2.2.1.l⟩) (h4 : x.2.2.2.2.2.1.l = y.2.2.2.2.2.1.l) : plI x = plI y := by
  simp only [plI, h1, h2, h3, h4]
set_option maxHeartbeats 400000 in
theorem sameitems_ok {w0 : World} {base : Nat} {H : List Seg} {A A2 : Option Addr} {C C2 : Nat} {l m : List (Int × List UInt8 × List UInt8 × Int × Vs (List UInt8 × List UInt8) × Vs UInt8 × Bool)} (h : Rd tyItem w0 base H A C l) (h2 : Rd tyItem w0 base H A2 C2 m) (he : (∀ x ∈ l, Rd tyField w0 base H x.2.2.2.2.1.A x.2.2.2.2.1.C x.2.2.2.2.1.l ∧ Rd tyB w0 base H x.2.2.2.2.2.1.A x.2.2.2.2.2.1.C x.2.2.2.2.2.1.l)) (he2 : (∀ x ∈ m, Rd tyField w0 base H x.2.2.2.2.1.A x.2.2.2.2.1.C x.2.2.2.2.1.l ∧ Rd tyB w0 base H x.2.2.2.2.2.1.A x.2.2.2.2.2.1.C x.2.2.2.2.2.1.l)) :
    SCalls Tryz.prog 27 [.slice A l.length C, .slice A2 m.length C2] w0 base (H) (fun v H' => v = .bool (decide (l.map plI = m.map plI)) ∧ H' = H) := by
  have hle0 := h.le
  have hcap0 := h.cap
  have hle2 := h2.le
  have hcap2 := h2.cap
  refine SCalls.of_walk (n := 69) Tryz.func27 rfl rfl rfl fun cs => ?_
  refine At.seq ?_
  refine At.region ?_
  refine AtL.assign (.inl rfl) rfl rfl ?_
  refine AtL.done ?_
  refine At.seq ?_
  refine At.seq ?_
  refine At.region ?_
  refine AtL.move (.inl rfl) rfl rfl ?_
  refine AtL.lenL Tryz.underlying40 (.inl rfl) rfl rfl ?_
  refine AtL.move (.inl rfl) rfl rfl ?_
  refine AtL.lenL Tryz.underlying40 (.inl rfl) rfl rfl ?_
  refine AtL.nei (.inl rfl) rfl rfl rfl ?_
  refine AtL.done ?_
  refine At.cond rfl ?_ ?_
  · intro hc1
    have hc1 : ¬ ((l.length : Int) = (m.length : Int)) := of_decide_eq_false (bnot_true hc1)
    refine At.seq ?_
    refine At.region ?_
    refine AtL.assign (.inl rfl) rfl rfl ?_
    refine AtL.done ?_
    exact At.ret Tryz.func27 rfl rfl (⟨congrArg Value.bool (decide_eq_false (map_ne_len hc1)).symm, rfl⟩)
  · intro hc1
    have hc1 : (l.length : Int) = (m.length : Int) := of_decide_eq_true (bnot_false hc1)
    refine At.skip ?_
    refine At.seq ?_
    refine At.seq ?_
    refine At.region ?_
    refine AtL.assign (.inl rfl) rfl rfl ?_
    refine AtL.done ?_
    refine At.block ?_
    refine At.loop (fun (i : Nat) => [(0, .slice A l.length C), (1, .slice A2 m.length C2), (5, .int .i64 (i : Int))]) (fun (i : Nat) => H) (fun (i : Nat) => i ≤ l.length ∧ ∀ j, j < i → plI (l.getD j ((0, [], [], 0, ⟨none, 0, []⟩, ⟨none, 0, []⟩, false) : Int × List UInt8 × List UInt8 × Int × Vs (List UInt8 × List UInt8) × Vs UInt8 × Bool)) = plI (m.getD j ((0, [], [], 0, ⟨none, 0, []⟩, ⟨none, 0, []⟩, false) : Int × List UInt8 × List UInt8 × Int × Vs (List UInt8 × List UInt8) × Vs UInt8 × Bool))) (fun (i : Nat) => l.length - i) 0 (⟨Nat.zero_le _, fun j hj => absurd hj (by omega)⟩) ⟨rfl, rfl, rfl, trivial⟩ rfl ?_
    rintro i ⟨hi, hp⟩ ihL1
    refine At.seq ?_
    refine At.seq ?_
    refine At.region ?_
    refine AtL.move (.inl rfl) rfl rfl ?_
    refine AtL.move (.inl rfl) rfl rfl ?_
    refine AtL.lenL Tryz.underlying40 (.inl rfl) rfl rfl ?_
    refine AtL.lss (.inl rfl) rfl rfl rfl ?_
    refine AtL.done ?_
    refine At.cond rfl ?_ ?_
    · intro hc2
      have hc2 : (i : Int) < (l.length : Int) := of_decide_eq_true hc2
      refine At.skip ?_
      refine At.seq ?_
      refine At.block ?_
      refine At.seq ?_
      have hil : i < l.length := by omega
      have him : i < m.length := by omega
      rcases Decidable.em ((l.getD i ((0, [], [], 0, ⟨none, 0, []⟩, ⟨none, 0, []⟩, false) : Int × List UInt8 × List UInt8 × Int × Vs (List UInt8 × List UInt8) × Vs UInt8 × Bool)).1 = (m.getD i ((0, [], [], 0, ⟨none, 0, []⟩, ⟨none, 0, []⟩, false) : Int × List UInt8 × List UInt8 × Int × Vs (List UInt8 × List UInt8) × Vs UInt8 × Bool)).1) with e1 | e1
      · skip
        rcases Decidable.em ((l.getD i ((0, [], [], 0, ⟨none, 0, []⟩, ⟨none, 0, []⟩, false) : Int × List UInt8 × List UInt8 × Int × Vs (List UInt8 × List UInt8) × Vs UInt8 × Bool)).2.2.2.2.2.2 = (m.getD i ((0, [], [], 0, ⟨none, 0, []⟩, ⟨none, 0, []⟩, false) : Int × List UInt8 × List UInt8 × Int × Vs (List UInt8 × List UInt8) × Vs UInt8 × Bool)).2.2.2.2.2.2) with e2 | e2
        · skip
          rcases Decidable.em ((⟨(l.getD i ((0, [], [], 0, ⟨none, 0, []⟩, ⟨none, 0, []⟩, false) : Int × List UInt8 × List UInt8 × Int × Vs (List UInt8 × List UInt8) × Vs UInt8 × Bool)).2.1, (l.getD i ((0, [], [], 0, ⟨none, 0, []⟩, ⟨none, 0, []⟩, false) : Int × List UInt8 × List UInt8 × Int × Vs (List UInt8 × List UInt8) × Vs UInt8 × Bool)).2.2.1, (l.getD i ((0, [], [], 0, ⟨none, 0, []⟩, ⟨none, 0, []⟩, false) : Int × List UInt8 × List UInt8 × Int × Vs (List UInt8 × List UInt8) × Vs UInt8 × Bool)).2.2.2.1, (l.getD i ((0, [], [], 0, ⟨none, 0, []⟩, ⟨none, 0, []⟩, false) : Int × List UInt8 × List UInt8 × Int × Vs (List UInt8 × List UInt8) × Vs UInt8 × Bool)).2.2.2.2.1.l⟩ : HeadV) = (⟨(m.getD i ((0, [], [], 0, ⟨none, 0, []⟩, ⟨none, 0, []⟩, false) : Int × List UInt8 × List UInt8 × Int × Vs (List UInt8 × List UInt8) × Vs UInt8 × Bool)).2.1, (m.getD i ((0, [], [], 0, ⟨none, 0, []⟩, ⟨none, 0, []⟩, false) : Int × List UInt8 × List UInt8 × Int × Vs (List UInt8 × List UInt8) × Vs UInt8 × Bool)).2.2.1, (m.getD i ((0, [], [], 0, ⟨none, 0, []⟩, ⟨none, 0, []⟩, false) : Int × List UInt8 × List UInt8 × Int × Vs (List UInt8 × List UInt8) × Vs UInt8 × Bool)).2.2.2.1, (m.getD i ((0, [], [], 0, ⟨none, 0, []⟩, ⟨none, 0, []⟩, false) : Int × List UInt8 × List UInt8 × Int × Vs (List UInt8 × List UInt8) × Vs UInt8 × Bool)).2.2.2.2.1.l⟩ : HeadV)) with e3 | e3
          · skip
            refine At.draw (es := []) (pv := [(0, .slice A l.length C), (1, .int .i64 (i : Int)), (2, .pointer (some (eaddr A (i * tyItem.sz)))), (3, .pointer (some ((eaddr A (i * tyItem.sz)).add 0))), (4, .int .i64 ((l.getD i ((0, [], [], 0, ⟨none, 0, []⟩, ⟨none, 0, []⟩, false) : Int × List UInt8 × List UInt8 × Int × Vs (List UInt8 × List UInt8) × Vs UInt8 × Bool)).1)), (5, .slice A2 m.length C2), (6, .int .i64 (i : Int)), (7, .pointer (some (eaddr A2 (i * tyItem.sz)))), (8, .pointer (some ((eaddr A2 (i * tyItem.sz)).add 0))), (9, .int .i64 ((m.getD i ((0, [], [], 0, ⟨none, 0, []⟩, ⟨none, 0, []⟩, false) : Int × List UInt8 × List UInt8 × Int × Vs (List UInt8 × List UInt8) × Vs UInt8 × Bool)).1)), (10, .bool false), (11, .bool false), (12, .slice A l.length C), (13, .int .i64 (i : Int)), (14, .pointer (some (eaddr A (i * tyItem.sz)))), (15, .pointer (some ((eaddr A (i * tyItem.sz)).add 6))), (16, .bool ((l.getD i ((0, [], [], 0, ⟨none, 0, []⟩, ⟨none, 0, []⟩, false) : Int × List UInt8 × List UInt8 × Int × Vs (List UInt8 × List UInt8) × Vs UInt8 × Bool)).2.2.2.2.2.2)), (17, .slice A2 m.length C2), (18, .int .i64 (i : Int)), (19, .pointer (some (eaddr A2 (i * tyItem.sz)))), (20, .pointer (some ((eaddr A2 (i * tyItem.sz)).add 6))), (21, .bool ((m.getD i ((0, [], [], 0, ⟨none, 0, []⟩, ⟨none, 0, []⟩, false) : Int × List UInt8 × List UInt8 × Int × Vs (List UInt8 × List UInt8) × Vs UInt8 × Bool)).2.2.2.2.2.2)), (22, .bool false), (23, .bool false), (24, .bool false), (25, .slice A l.length C), (26, .int .i64 (i : Int)), (27, .pointer (some (eaddr A (i * tyItem.sz)))), (28, .pointer (some ((eaddr A (i * tyItem.sz)).add 1))), (29, .agg #[str ((l.getD i ((0, [], [], 0, ⟨none, 0, []⟩, ⟨none, 0, []⟩, false) : Int × List UInt8 × List UInt8 × Int × Vs (List UInt8 × List UInt8) × Vs UInt8 × Bool)).2.1), str ((l.getD i ((0, [], [], 0, ⟨none, 0, []⟩, ⟨none, 0, []⟩, false) : Int × List UInt8 × List UInt8 × Int × Vs (List UInt8 × List UInt8) × Vs UInt8 × Bool)).2.2.1), .int .i64 ((l.getD i ((0, [], [], 0, ⟨none, 0, []⟩, ⟨none, 0, []⟩, false) : Int × List UInt8 × List UInt8 × Int × Vs (List UInt8 × List UInt8) × Vs UInt8 × Bool)).2.2.2.1), .slice ((l.getD i ((0, [], [], 0, ⟨none, 0, []⟩, ⟨none, 0, []⟩, false) : Int × List UInt8 × List UInt8 × Int × Vs (List UInt8 × List UInt8) × Vs UInt8 × Bool)).2.2.2.2.1.A) ((l.getD i ((0, [], [], 0, ⟨none, 0, []⟩, ⟨none, 0, []⟩, false) : Int × List UInt8 × List UInt8 × Int × Vs (List UInt8 × List UInt8) × Vs UInt8 × Bool)).2.2.2.2.1.l).length ((l.getD i ((0, [], [], 0, ⟨none, 0, []⟩, ⟨none, 0, []⟩, false) : Int × List UInt8 × List UInt8 × Int × Vs (List UInt8 × List UInt8) × Vs UInt8 × Bool)).2.2.2.2.1.C)]), (30, .slice A2 m.length C2), (31, .int .i64 (i : Int)), (32, .pointer (some (eaddr A2 (i * tyItem.sz)))), (33, .pointer (some ((eaddr A2 (i * tyItem.sz)).add 1))), (34, .agg #[str ((m.getD i ((0, [], [], 0, ⟨none, 0, []⟩, ⟨none, 0, []⟩, false) : Int × List UInt8 × List UInt8 × Int × Vs (List UInt8 × List UInt8) × Vs UInt8 × Bool)).2.1), str ((m.getD i ((0, [], [], 0, ⟨none, 0, []⟩, ⟨none, 0, []⟩, false) : Int × List UInt8 × List UInt8 × Int × Vs (List UInt8 × List UInt8) × Vs UInt8 × Bool)).2.2.1), .int .i64 ((m.getD i ((0, [], [], 0, ⟨none, 0, []⟩, ⟨none, 0, []⟩, false) : Int × List UInt8 × List UInt8 × Int × Vs (List UInt8 × List UInt8) × Vs UInt8 × Bool)).2.2.2.1), .slice ((m.getD i ((0, [], [], 0, ⟨none, 0, []⟩, ⟨none, 0, []⟩, false) : Int × List UInt8 × List UInt8 × Int × Vs (List UInt8 × List UInt8) × Vs UInt8 × Bool)).2.2.2.2.1.A) ((m.getD i ((0, [], [], 0, ⟨none, 0, []⟩, ⟨none, 0, []⟩, false) : Int × List UInt8 × List UInt8 × Int × Vs (List UInt8 × List UInt8) × Vs UInt8 × Bool)).2.2.2.2.1.l).length ((m.getD i ((0, [], [], 0, ⟨none, 0, []⟩, ⟨none, 0, []⟩, false) : Int × List UInt8 × List UInt8 × Int × Vs (List UInt8 × List UInt8) × Vs UInt8 × Bool)).2.2.2.2.1.C)]), (35, .bool (decide ((⟨(l.getD i ((0, [], [], 0, ⟨none, 0, []⟩, ⟨none, 0, []⟩, false) : Int × List UInt8 × List UInt8 × Int × Vs (List UInt8 × List UInt8) × Vs UInt8 × Bool)).2.1, (l.getD i ((0, [], [], 0, ⟨none, 0, []⟩, ⟨none, 0, []⟩, false) : Int × List UInt8 × List UInt8 × Int × Vs (List UInt8 × List UInt8) × Vs UInt8 × Bool)).2.2.1, (l.getD i ((0, [], [], 0, ⟨none, 0, []⟩, ⟨none, 0, []⟩, false) : Int × List UInt8 × List UInt8 × Int × Vs (List UInt8 × List UInt8) × Vs UInt8 × Bool)).2.2.2.1, (l.getD i ((0, [], [], 0, ⟨none, 0, []⟩, ⟨none, 0, []⟩, false) : Int × List UInt8 × List UInt8 × Int × Vs (List UInt8 × List UInt8) × Vs UInt8 × Bool)).2.2.2.2.1.l⟩ : HeadV) = ⟨(m.getD i ((0, [], [], 0, ⟨none, 0, []⟩, ⟨none, 0, []⟩, false) : Int × List UInt8 × List UInt8 × Int × Vs (List UInt8 × List UInt8) × Vs UInt8 × Bool)).2.1, (m.getD i ((0, [], [], 0, ⟨none, 0, []⟩, ⟨none, 0, []⟩, false) : Int × List UInt8 × List UInt8 × Int × Vs (List UInt8 × List UInt8) × Vs UInt8 × Bool)).2.2.1, (m.getD i ((0, [], [], 0, ⟨none, 0, []⟩, ⟨none, 0, []⟩, false) : Int × List UInt8 × List UInt8 × Int × Vs (List UInt8 × List UInt8) × Vs UInt8 × Bool)).2.2.2.1, (m.getD i ((0, [], [], 0, ⟨none, 0, []⟩, ⟨none, 0, []⟩, false) : Int × List UInt8 × List UInt8 × Int × Vs (List UInt8 × List UInt8) × Vs UInt8 × Bool)).2.2.2.2.1.l⟩))), (36, .bool false), (37, .bool false), (38, .bool false), (39, .slice A l.length C), (40, .int .i64 (i : Int)), (41, .pointer (some (eaddr A (i * tyItem.sz)))), (42, .pointer (some ((eaddr A (i * tyItem.sz)).add 5))), (43, .slice ((l.getD i ((0, [], [], 0, ⟨none, 0, []⟩, ⟨none, 0, []⟩, false) : Int × List UInt8 × List UInt8 × Int × Vs (List UInt8 × List UInt8) × Vs UInt8 × Bool)).2.2.2.2.2.1.A) ((l.getD i ((0, [], [], 0, ⟨none, 0, []⟩, ⟨none, 0, []⟩, false) : Int × List UInt8 × List UInt8 × Int × Vs (List UInt8 × List UInt8) × Vs UInt8 × Bool)).2.2.2.2.2.1.l).length ((l.getD i ((0, [], [], 0, ⟨none, 0, []⟩, ⟨none, 0, []⟩, false) : Int × List UInt8 × List UInt8 × Int × Vs (List UInt8 × List UInt8) × Vs UInt8 × Bool)).2.2.2.2.2.1.C)), (44, .slice A2 m.length C2), (45, .int .i64 (i : Int)), (46, .pointer (some (eaddr A2 (i * tyItem.sz)))), (47, .pointer (some ((eaddr A2 (i * tyItem.sz)).add 5))), (48, .slice ((m.getD i ((0, [], [], 0, ⟨none, 0, []⟩, ⟨none, 0, []⟩, false) : Int × List UInt8 × List UInt8 × Int × Vs (List UInt8 × List UInt8) × Vs UInt8 × Bool)).2.2.2.2.2.1.A) ((m.getD i ((0, [], [], 0, ⟨none, 0, []⟩, ⟨none, 0, []⟩, false) : Int × List UInt8 × List UInt8 × Int × Vs (List UInt8 × List UInt8) × Vs UInt8 × Bool)).2.2.2.2.2.1.l).length ((m.getD i ((0, [], [], 0, ⟨none, 0, []⟩, ⟨none, 0, []⟩, false) : Int × List UInt8 × List UInt8 × Int × Vs (List UInt8 × List UInt8) × Vs UInt8 × Bool)).2.2.2.2.2.1.C)), (49, .bool (decide ((l.getD i ((0, [], [], 0, ⟨none, 0, []⟩, ⟨none, 0, []⟩, false) : Int × List UInt8 × List UInt8 × Int × Vs (List UInt8 × List UInt8) × Vs UInt8 × Bool)).2.2.2.2.2.1.l = (m.getD i ((0, [], [], 0, ⟨none, 0, []⟩, ⟨none, 0, []⟩, false) : Int × List UInt8 × List UInt8 × Int × Vs (List UInt8 × List UInt8) × Vs UInt8 × Bool)).2.2.2.2.2.1.l))), (50, .bool (!(decide ((l.getD i ((0, [], [], 0, ⟨none, 0, []⟩, ⟨none, 0, []⟩, false) : Int × List UInt8 × List UInt8 × Int × Vs (List UInt8 × List UInt8) × Vs UInt8 × Bool)).2.2.2.2.2.1.l = (m.getD i ((0, [], [], 0, ⟨none, 0, []⟩, ⟨none, 0, []⟩, false) : Int × List UInt8 × List UInt8 × Int × Vs (List UInt8 × List UInt8) × Vs UInt8 × Bool)).2.2.2.2.2.1.l)))), (51, .bool (!(decide ((l.getD i ((0, [], [], 0, ⟨none, 0, []⟩, ⟨none, 0, []⟩, false) : Int × List UInt8 × List UInt8 × Int × Vs (List UInt8 × List UInt8) × Vs UInt8 × Bool)).2.2.2.2.2.1.l = (m.getD i ((0, [], [], 0, ⟨none, 0, []⟩, ⟨none, 0, []⟩, false) : Int × List UInt8 × List UInt8 × Int × Vs (List UInt8 × List UInt8) × Vs UInt8 × Bool)).2.2.2.2.2.1.l))))]) tf_mixed (by kernel_rfl) (by kernel_rfl) (by kernel_rfl) ?_
            refine ⟨⟨.inr ⟨_, rfl, rfl, .inl ⟨rfl, Do.move rfl⟩⟩, .inr ⟨_, rfl, rfl, .inl ⟨rfl, Do.move rfl⟩⟩, .inr ⟨_, rfl, rfl, .inl ⟨rfl, Do.indexL i h Tryz.underlying40 tf_sz49 rfl rfl rfl (by omega)⟩⟩, .inr ⟨_, rfl, rfl, .inl ⟨rfl, Do.fieldAddr tf_fo49_0 rfl⟩⟩, .inr ⟨_, rfl, rfl, .inl ⟨rfl, Do.load (v := .int .i64 ((l.getD i ((0, [], [], 0, ⟨none, 0, []⟩, ⟨none, 0, []⟩, false) : Int × List UInt8 × List UInt8 × Int × Vs (List UInt8 × List UInt8) × Vs UInt8 × Bool)).1)) tf_flat3 rfl (Rd.cell_at h (j := 0) (getD_some ((0, [], [], 0, ⟨none, 0, []⟩, ⟨none, 0, []⟩, false) : Int × List UInt8 × List UInt8 × Int × Vs (List UInt8 × List UInt8) × Vs UInt8 × Bool) (by omega)) rfl)⟩⟩, .inr ⟨_, rfl, rfl, .inl ⟨rfl, Do.move rfl⟩⟩, .inr ⟨_, rfl, rfl, .inl ⟨rfl, Do.move rfl⟩⟩, .inr ⟨_, rfl, rfl, .inl ⟨rfl, Do.indexL i h2 Tryz.underlying40 tf_sz49 rfl rfl rfl (by omega)⟩⟩, .inr ⟨_, rfl, rfl, .inl ⟨rfl, Do.fieldAddr tf_fo49_0 rfl⟩⟩, .inr ⟨_, rfl, rfl, .inl ⟨rfl, Do.load (v := .int .i64 ((m.getD i ((0, [], [], 0, ⟨none, 0, []⟩, ⟨none, 0, []⟩, false) : Int × List UInt8 × List UInt8 × Int × Vs (List UInt8 × List UInt8) × Vs UInt8 × Bool)).1)) tf_flat3 rfl (Rd.cell_at h2 (j := 0) (getD_some ((0, [], [], 0, ⟨none, 0, []⟩, ⟨none, 0, []⟩, false) : Int × List UInt8 × List UInt8 × Int × Vs (List UInt8 × List UInt8) × Vs UInt8 × Bool) (by omega)) rfl)⟩⟩, .inr ⟨_, rfl, rfl, .inl ⟨rfl, Do.asBool (Do.nei rfl rfl) (by rw [decide_eq_true e1]; rfl)⟩⟩, .inr ⟨_, rfl, rfl, .inl ⟨rfl, Do.move rfl⟩⟩, .inr ⟨_, rfl, rfl, .inl ⟨⟨_, _, _, rfl, rfl, rfl, rfl⟩, Do.move rfl⟩⟩, .inr ⟨_, rfl, rfl, .inl ⟨⟨_, _, _, rfl, rfl, rfl, rfl⟩, Do.move rfl⟩⟩, .inr ⟨_, rfl, rfl, .inl ⟨⟨_, _, _, rfl, rfl, rfl, rfl⟩, Do.indexL i h Tryz.underlying40 tf_sz49 rfl rfl rfl (by omega)⟩⟩, .inr ⟨_, rfl, rfl, .inl ⟨⟨_, _, _, rfl, rfl, rfl, rfl⟩, Do.fieldAddr tf_fo49_3 rfl⟩⟩, .inr ⟨_, rfl, rfl, .inl ⟨⟨_, _, _, rfl, rfl, rfl, rfl⟩, Do.load (v := .bool ((l.getD i ((0, [], [], 0, ⟨none, 0, []⟩, ⟨none, 0, []⟩, false) : Int × List UInt8 × List UInt8 × Int × Vs (List UInt8 × List UInt8) × Vs UInt8 × Bool)).2.2.2.2.2.2)) tf_flat4 rfl (Rd.cell_at h (j := 6) (getD_some ((0, [], [], 0, ⟨none, 0, []⟩, ⟨none, 0, []⟩, false) : Int × List UInt8 × List UInt8 × Int × Vs (List UInt8 × List UInt8) × Vs UInt8 × Bool) (by omega)) rfl)⟩⟩, .inr ⟨_, rfl, rfl, .inl ⟨⟨_, _, _, rfl, rfl, rfl, rfl⟩, Do.move rfl⟩⟩, .inr ⟨_, rfl, rfl, .inl ⟨⟨_, _, _, rfl, rfl, rfl, rfl⟩, Do.move rfl⟩⟩, .inr ⟨_, rfl, rfl, .inl ⟨⟨_, _, _, rfl, rfl, rfl, rfl⟩, Do.indexL i h2 Tryz.underlying40 tf_sz49 rfl rfl rfl (by omega)⟩⟩, .inr ⟨_, rfl, rfl, .inl ⟨⟨_, _, _, rfl, rfl, rfl, rfl⟩, Do.fieldAddr tf_fo49_3 rfl⟩⟩, .inr ⟨_, rfl, rfl, .inl ⟨⟨_, _, _, rfl, rfl, rfl, rfl⟩, Do.load (v := .bool ((m.getD i ((0, [], [], 0, ⟨none, 0, []⟩, ⟨none, 0, []⟩, false) : Int × List UInt8 × List UInt8 × Int × Vs (List UInt8 × List UInt8) × Vs UInt8 × Bool)).2.2.2.2.2.2)) tf_flat4 rfl (Rd.cell_at h2 (j := 6) (getD_some ((0, [], [], 0, ⟨none, 0, []⟩, ⟨none, 0, []⟩, false) : Int × List UInt8 × List UInt8 × Int × Vs (List UInt8 × List UInt8) × Vs UInt8 × Bool) (by omega)) rfl)⟩⟩, .inr ⟨_, rfl, rfl, .inl ⟨⟨_, _, _, rfl, rfl, rfl, rfl⟩, Do.asBool (Do.neb Tryz.underlying4 rfl rfl) (by rw [e2, beq_self_eq_true]; rfl)⟩⟩, .inr ⟨_, rfl, rfl, .inl ⟨rfl, Do.pickF rfl rfl⟩⟩, .inr ⟨_, rfl, rfl, .inl ⟨rfl, Do.move rfl⟩⟩, .inr ⟨_, rfl, rfl, .inl ⟨⟨_, _, _, rfl, rfl, rfl, rfl⟩, Do.move rfl⟩⟩, .inr ⟨_, rfl, rfl, .inl ⟨⟨_, _, _, rfl, rfl, rfl, rfl⟩, Do.move rfl⟩⟩, .inr ⟨_, rfl, rfl, .inl ⟨⟨_, _, _, rfl, rfl, rfl, rfl⟩, Do.indexL i h Tryz.underlying40 tf_sz49 rfl rfl rfl (by omega)⟩⟩, .inr ⟨_, rfl, rfl, .inl ⟨⟨_, _, _, rfl, rfl, rfl, rfl⟩, Do.fieldAddr tf_fo49_1 rfl⟩⟩, .inr ⟨_, rfl, rfl, .inl ⟨⟨_, _, _, rfl, rfl, rfl, rfl⟩, Do.loadN (cs := [str ((l.getD i ((0, [], [], 0, ⟨none, 0, []⟩, ⟨none, 0, []⟩, false) : Int × List UInt8 × List UInt8 × Int × Vs (List UInt8 × List UInt8) × Vs UInt8 × Bool)).2.1), str ((l.getD i ((0, [], [], 0, ⟨none, 0, []⟩, ⟨none, 0, []⟩, false) : Int × List UInt8 × List UInt8 × Int × Vs (List UInt8 × List UInt8) × Vs UInt8 × Bool)).2.2.1), .int .i64 ((l.getD i ((0, [], [], 0, ⟨none, 0, []⟩, ⟨none, 0, []⟩, false) : Int × List UInt8 × List UInt8 × Int × Vs (List UInt8 × List UInt8) × Vs UInt8 × Bool)).2.2.2.1), .slice ((l.getD i ((0, [], [], 0, ⟨none, 0, []⟩, ⟨none, 0, []⟩, false) : Int × List UInt8 × List UInt8 × Int × Vs (List UInt8 × List UInt8) × Vs UInt8 × Bool)).2.2.2.2.1.A) ((l.getD i ((0, [], [], 0, ⟨none, 0, []⟩, ⟨none, 0, []⟩, false) : Int × List UInt8 × List UInt8 × Int × Vs (List UInt8 × List UInt8) × Vs UInt8 × Bool)).2.2.2.2.1.l).length ((l.getD i ((0, [], [], 0, ⟨none, 0, []⟩, ⟨none, 0, []⟩, false) : Int × List UInt8 × List UInt8 × Int × Vs (List UInt8 × List UInt8) × Vs UInt8 × Bool)).2.2.2.2.1.C)]) tf_agg47 rfl rfl (Rd.cellsPart h (getD_some ((0, [], [], 0, ⟨none, 0, []⟩, ⟨none, 0, []⟩, false) : Int × List UInt8 × List UInt8 × Int × Vs (List UInt8 × List UInt8) × Vs UInt8 × Bool) (by omega)) 1 _ (by intro j v hj; rcases j with _ | _ | _ | _ | j <;> first | exact hj | cases hj))⟩⟩, .inr ⟨_, rfl, rfl, .inl ⟨⟨_, _, _, rfl, rfl, rfl, rfl⟩, Do.move rfl⟩⟩, .inr ⟨_, rfl, rfl, .inl ⟨⟨_, _, _, rfl, rfl, rfl, rfl⟩, Do.move rfl⟩⟩, .inr ⟨_, rfl, rfl, .inl ⟨⟨_, _, _, rfl, rfl, rfl, rfl⟩, Do.indexL i h2 Tryz.underlying40 tf_sz49 rfl rfl rfl (by omega)⟩⟩, .inr ⟨_, rfl, rfl, .inl ⟨⟨_, _, _, rfl, rfl, rfl, rfl⟩, Do.fieldAddr tf_fo49_1 rfl⟩⟩, .inr ⟨_, rfl, rfl, .inl ⟨⟨_, _, _, rfl, rfl, rfl, rfl⟩, Do.loadN (cs := [str ((m.getD i ((0, [], [], 0, ⟨none, 0, []⟩, ⟨none, 0, []⟩, false) : Int × List UInt8 × List UInt8 × Int × Vs (List UInt8 × List UInt8) × Vs UInt8 × Bool)).2.1), str ((m.getD i ((0, [], [], 0, ⟨none, 0, []⟩, ⟨none, 0, []⟩, false) : Int × List UInt8 × List UInt8 × Int × Vs (List UInt8 × List UInt8) × Vs UInt8 × Bool)).2.2.1), .int .i64 ((m.getD i ((0, [], [], 0, ⟨none, 0, []⟩, ⟨none, 0, []⟩, false) : Int × List UInt8 × List UInt8 × Int × Vs (List UInt8 × List UInt8) × Vs UInt8 × Bool)).2.2.2.1), .slice ((m.getD i ((0, [], [], 0, ⟨none, 0, []⟩, ⟨none, 0, []⟩, false) : Int × List UInt8 × List UInt8 × Int × Vs (List UInt8 × List UInt8) × Vs UInt8 × Bool)).2.2.2.2.1.A) ((m.getD i ((0, [], [], 0, ⟨none, 0, []⟩, ⟨none, 0, []⟩, false) : Int × List UInt8 × List UInt8 × Int × Vs (List UInt8 × List UInt8) × Vs UInt8 × Bool)).2.2.2.2.1.l).length ((m.getD i ((0, [], [], 0, ⟨none, 0, []⟩, ⟨none, 0, []⟩, false) : Int × List UInt8 × List UInt8 × Int × Vs (List UInt8 × List UInt8) × Vs UInt8 × Bool)).2.2.2.2.1.C)]) tf_agg47 rfl rfl (Rd.cellsPart h2 (getD_some ((0, [], [], 0, ⟨none, 0, []⟩, ⟨none, 0, []⟩, false) : Int × List UInt8 × List UInt8 × Int × Vs (List UInt8 × List UInt8) × Vs UInt8 × Bool) (by omega)) 1 _ (by intro j v hj; rcases j with _ | _ | _ | _ | j <;> first | exact hj | cases hj))⟩⟩, .inr ⟨_, rfl, rfl, .inl ⟨⟨_, _, _, rfl, rfl, rfl, rfl⟩, Do.call tf_body49 rfl (samehead_ok (m := (l.getD i ((0, [], [], 0, ⟨none, 0, []⟩, ⟨none, 0, []⟩, false) : Int × List UInt8 × List UInt8 × Int × Vs (List UInt8 × List UInt8) × Vs UInt8 × Bool)).2.1) (t := (l.getD i ((0, [], [], 0, ⟨none, 0, []⟩, ⟨none, 0, []⟩, false) : Int × List UInt8 × List UInt8 × Int × Vs (List UInt8 × List UInt8) × Vs UInt8 × Bool)).2.2.1) (minor := (l.getD i ((0, [], [], 0, ⟨none, 0, []⟩, ⟨none, 0, []⟩, false) : Int × List UInt8 × List UInt8 × Int × Vs (List UInt8 × List UInt8) × Vs UInt8 × Bool)).2.2.2.1) (m2 := (m.getD i ((0, [], [], 0, ⟨none, 0, []⟩, ⟨none, 0, []⟩, false) : Int × List UInt8 × List UInt8 × Int × Vs (List UInt8 × List UInt8) × Vs UInt8 × Bool)).2.1) (t2 := (m.getD i ((0, [], [], 0, ⟨none, 0, []⟩, ⟨none, 0, []⟩, false) : Int × List UInt8 × List UInt8 × Int × Vs (List UInt8 × List UInt8) × Vs UInt8 × Bool)).2.2.1) (minor2 := (m.getD i ((0, [], [], 0, ⟨none, 0, []⟩, ⟨none, 0, []⟩, false) : Int × List UInt8 × List UInt8 × Int × Vs (List UInt8 × List UInt8) × Vs UInt8 × Bool)).2.2.2.1) (fs := (l.getD i ((0, [], [], 0, ⟨none, 0, []⟩, ⟨none, 0, []⟩, false) : Int × List UInt8 × List UInt8 × Int × Vs (List UInt8 × List UInt8) × Vs UInt8 × Bool)).2.2.2.2.1.l) (gs := (m.getD i ((0, [], [], 0, ⟨none, 0, []⟩, ⟨none, 0, []⟩, false) : Int × List UInt8 × List UInt8 × Int × Vs (List UInt8 × List UInt8) × Vs UInt8 × Bool)).2.2.2.2.1.l) (he _ (getD_mem (l := l) (i := i) (d := ((0, [], [], 0, ⟨none, 0, []⟩, ⟨none, 0, []⟩, false) : Int × List UInt8 × List UInt8 × Int × Vs (List UInt8 × List UInt8) × Vs UInt8 × Bool)) (by omega))).1 (he2 _ (getD_mem (l := m) (i := i) (d := ((0, [], [], 0, ⟨none, 0, []⟩, ⟨none, 0, []⟩, false) : Int × List UInt8 × List UInt8 × Int × Vs (List UInt8 × List UInt8) × Vs UInt8 × Bool)) (by omega))).1)⟩⟩, .inr ⟨_, rfl, rfl, .inl ⟨⟨_, _, _, rfl, rfl, rfl, rfl⟩, Do.asBool (Do.not rfl) (by rw [decide_eq_true e3]; rfl)⟩⟩, .inr ⟨_, rfl, rfl, .inl ⟨rfl, Do.pickF rfl rfl⟩⟩, .inr ⟨_, rfl, rfl, .inl ⟨rfl, Do.move rfl⟩⟩, .inr ⟨_, rfl, rfl, .inl ⟨⟨_, _, _, rfl, rfl, rfl, rfl⟩, Do.move rfl⟩⟩, .inr ⟨_, rfl, rfl, .inl ⟨⟨_, _, _, rfl, rfl, rfl, rfl⟩, Do.move rfl⟩⟩, .inr ⟨_, rfl, rfl, .inl ⟨⟨_, _, _, rfl, rfl, rfl, rfl⟩, Do.indexL i h Tryz.underlying40 tf_sz49 rfl rfl rfl (by omega)⟩⟩, .inr ⟨_, rfl, rfl, .inl ⟨⟨_, _, _, rfl, rfl, rfl, rfl⟩, Do.fieldAddr tf_fo49_2 rfl⟩⟩, .inr ⟨_, rfl, rfl, .inl ⟨⟨_, _, _, rfl, rfl, rfl, rfl⟩, Do.load (v := .slice ((l.getD i ((0, [], [], 0, ⟨none, 0, []⟩, ⟨none, 0, []⟩, false) : Int × List UInt8 × List UInt8 × Int × Vs (List UInt8 × List UInt8) × Vs UInt8 × Bool)).2.2.2.2.2.1.A) ((l.getD i ((0, [], [], 0, ⟨none, 0, []⟩, ⟨none, 0, []⟩, false) : Int × List UInt8 × List UInt8 × Int × Vs (List UInt8 × List UInt8) × Vs UInt8 × Bool)).2.2.2.2.2.1.l).length ((l.getD i ((0, [], [], 0, ⟨none, 0, []⟩, ⟨none, 0, []⟩, false) : Int × List UInt8 × List UInt8 × Int × Vs (List UInt8 × List UInt8) × Vs UInt8 × Bool)).2.2.2.2.2.1.C)) tf_flat22 rfl (Rd.cell_at h (j := 5) (getD_some ((0, [], [], 0, ⟨none, 0, []⟩, ⟨none, 0, []⟩, false) : Int × List UInt8 × List UInt8 × Int × Vs (List UInt8 × List UInt8) × Vs UInt8 × Bool) (by omega)) rfl)⟩⟩, .inr ⟨_, rfl, rfl, .inl ⟨⟨_, _, _, rfl, rfl, rfl, rfl⟩, Do.move rfl⟩⟩, .inr ⟨_, rfl, rfl, .inl ⟨⟨_, _, _, rfl, rfl, rfl, rfl⟩, Do.move rfl⟩⟩, .inr ⟨_, rfl, rfl, .inl ⟨⟨_, _, _, rfl, rfl, rfl, rfl⟩, Do.indexL i h2 Tryz.underlying40 tf_sz49 rfl rfl rfl (by omega)⟩⟩, .inr ⟨_, rfl, rfl, .inl ⟨⟨_, _, _, rfl, rfl, rfl, rfl⟩, Do.fieldAddr tf_fo49_2 rfl⟩⟩, .inr ⟨_, rfl, rfl, .inl ⟨⟨_, _, _, rfl, rfl, rfl, rfl⟩, Do.load (v := .slice ((m.getD i ((0, [], [], 0, ⟨none, 0, []⟩, ⟨none, 0, []⟩, false) : Int × List UInt8 × List UInt8 × Int × Vs (List UInt8 × List UInt8) × Vs UInt8 × Bool)).2.2.2.2.2.1.A) ((m.getD i ((0, [], [], 0, ⟨none, 0, []⟩, ⟨none, 0, []⟩, false) : Int × List UInt8 × List UInt8 × Int × Vs (List UInt8 × List UInt8) × Vs UInt8 × Bool)).2.2.2.2.2.1.l).length ((m.getD i ((0, [], [], 0, ⟨none, 0, []⟩, ⟨none, 0, []⟩, false) : Int × List UInt8 × List UInt8 × Int × Vs (List UInt8 × List UInt8) × Vs UInt8 × Bool)).2.2.2.2.2.1.C)) tf_flat22 rfl (Rd.cell_at h2 (j := 5) (getD_some ((0, [], [], 0, ⟨none, 0, []⟩, ⟨none, 0, []⟩, false) : Int × List UInt8 × List UInt8 × Int × Vs (List UInt8 × List UInt8) × Vs UInt8 × Bool) (by omega)) rfl)⟩⟩, .inr ⟨_, rfl, rfl, .inl ⟨⟨_, _, _, rfl, rfl, rfl, rfl⟩, Do.call tf_body18 rfl (same_ok (l := (l.getD i ((0, [], [], 0, ⟨none, 0, []⟩, ⟨none, 0, []⟩, false) : Int × List UInt8 × List UInt8 × Int × Vs (List UInt8 × List UInt8) × Vs UInt8 × Bool)).2.2.2.2.2.1.l) (l2 := (m.getD i ((0, [], [], 0, ⟨none, 0, []⟩, ⟨none, 0, []⟩, false) : Int × List UInt8 × List UInt8 × Int × Vs (List UInt8 × List UInt8) × Vs UInt8 × Bool)).2.2.2.2.2.1.l) (he _ (getD_mem (l := l) (i := i) (d := ((0, [], [], 0, ⟨none, 0, []⟩, ⟨none, 0, []⟩, false) : Int × List UInt8 × List UInt8 × Int × Vs (List UInt8 × List UInt8) × Vs UInt8 × Bool)) (by omega))).2 (he2 _ (getD_mem (l := m) (i := i) (d := ((0, [], [], 0, ⟨none, 0, []⟩, ⟨none, 0, []⟩, false) : Int × List UInt8 × List UInt8 × Int × Vs (List UInt8 × List UInt8) × Vs UInt8 × Bool)) (by omega))).2)⟩⟩, .inr ⟨_, rfl, rfl, .inl ⟨⟨_, _, _, rfl, rfl, rfl, rfl⟩, Do.not rfl⟩⟩, .inr ⟨_, rfl, rfl, .inl ⟨rfl, Do.pickF rfl rfl⟩⟩, trivial⟩, by kernel_rfl, ?_⟩
            refine At.mono (E' := [(0, .slice A l.length C), (1, .slice A2 m.length C2), (5, .int .i64 (i : Int)), (68, .bool (!(decide ((l.getD i ((0, [], [], 0, ⟨none, 0, []⟩, ⟨none, 0, []⟩, false) : Int × List UInt8 × List UInt8 × Int × Vs (List UInt8 × List UInt8) × Vs UInt8 × Bool)).2.2.2.2.2.1.l = (m.getD i ((0, [], [], 0, ⟨none, 0, []⟩, ⟨none, 0, []⟩, false) : Int × List UInt8 × List UInt8 × Int × Vs (List UInt8 × List UInt8) × Vs UInt8 × Bool)).2.2.2.2.2.1.l))))]) ⟨rfl, rfl, rfl, rfl, trivial⟩ ?_
            refine At.cond rfl ?_ ?_
            · intro hc3
              have hc3 : ¬ ((l.getD i ((0, [], [], 0, ⟨none, 0, []⟩, ⟨none, 0, []⟩, false) : Int × List UInt8 × List UInt8 × Int × Vs (List UInt8 × List UInt8) × Vs UInt8 × Bool)).2.2.2.2.2.1.l = (m.getD i ((0, [], [], 0, ⟨none, 0, []⟩, ⟨none, 0, []⟩, false) : Int × List UInt8 × List UInt8 × Int × Vs (List UInt8 × List UInt8) × Vs UInt8 × Bool)).2.2.2.2.2.1.l) := of_decide_eq_false (bnot_true hc3)
              refine At.seq ?_
              refine At.region ?_
              refine AtL.assign (.inl rfl) rfl rfl ?_
              refine AtL.done ?_
              exact At.ret Tryz.func27 rfl rfl (⟨congrArg Value.bool (decide_eq_false (map_ne_at hil him fun h9 => hc3 (congrArg ItV.body h9))).symm, rfl⟩)
            · intro hc3
              have hc3 : (l.getD i ((0, [], [], 0, ⟨none, 0, []⟩, ⟨none, 0, []⟩, false) : Int × List UInt8 × List UInt8 × Int × Vs (List UInt8 × List UInt8) × Vs UInt8 × Bool)).2.2.2.2.2.1.l = (m.getD i ((0, [], [], 0, ⟨none, 0, []⟩, ⟨none, 0, []⟩, false) : Int × List UInt8 × List UInt8 × Int × Vs (List UInt8 × List UInt8) × Vs UInt8 × Bool)).2.2.2.2.2.1.l := of_decide_eq_true (bnot_false hc3)
              refine At.skip ?_
              refine At.inBlock ?_
              refine At.region ?_
              refine AtL.move (.inl rfl) rfl rfl ?_
              refine AtL.add (z := (i : Int) + 1) (.inl rfl) rfl rfl rfl (w64 (by omega) (by omega)) ?_
              refine AtL.assign (.inl rfl) rfl rfl ?_
              refine AtL.done ?_
              refine ihL1 (i + 1) (⟨by omega, fun j hj => by rcases Nat.lt_or_ge j i with h9 | h9; exact hp j h9; obtain rfl : j = i := (by omega); exact plI_eq e1 e2 e3 (by simpa using hc3)⟩) (by omega) _ ?_
              exact ⟨rfl, rfl, (by first | rfl | exact slLen (by simp []) | exact intEq (by omega) | exact intEq (by simp []) | exact slLen (by simp []; omega)), trivial⟩
          · skip
            refine At.draw (es := []) (pv := [(0, .slice A l.length C), (1, .int .i64 (i : Int)), (2, .pointer (some (eaddr A (i * tyItem.sz)))), (3, .pointer (some ((eaddr A (i * tyItem.sz)).add 0))), (4, .int .i64 ((l.getD i ((0, [], [], 0, ⟨none, 0, []⟩, ⟨none, 0, []⟩, false) : Int × List UInt8 × List UInt8 × Int × Vs (List UInt8 × List UInt8) × Vs UInt8 × Bool)).1)), (5, .slice A2 m.length C2), (6, .int .i64 (i : Int)), (7, .pointer (some (eaddr A2 (i * tyItem.sz)))), (8, .pointer (some ((eaddr A2 (i * tyItem.sz)).add 0))), (9, .int .i64 ((m.getD i ((0, [], [], 0, ⟨none, 0, []⟩, ⟨none, 0, []⟩, false) : Int × List UInt8 × List UInt8 × Int × Vs (List UInt8 × List UInt8) × Vs UInt8 × Bool)).1)), (10, .bool false), (11, .bool false), (12, .slice A l.length C), (13, .int .i64 (i : Int)), (14, .pointer (some (eaddr A (i * tyItem.sz)))), (15, .pointer (some ((eaddr A (i * tyItem.sz)).add 6))), (16, .bool ((l.getD i ((0, [], [], 0, ⟨none, 0, []⟩, ⟨none, 0, []⟩, false) : Int × List UInt8 × List UInt8 × Int × Vs (List UInt8 × List UInt8) × Vs UInt8 × Bool)).2.2.2.2.2.2)), (17, .slice A2 m.length C2), (18, .int .i64 (i : Int)), (19, .pointer (some (eaddr A2 (i * tyItem.sz)))), (20, .pointer (some ((eaddr A2 (i * tyItem.sz)).add 6))), (21, .bool ((m.getD i ((0, [], [], 0, ⟨none, 0, []⟩, ⟨none, 0, []⟩, false) : Int × List UInt8 × List UInt8 × Int × Vs (List UInt8 × List UInt8) × Vs UInt8 × Bool)).2.2.2.2.2.2)), (22, .bool false), (23, .bool false), (24, .bool false), (25, .slice A l.length C), (26, .int .i64 (i : Int)), (27, .pointer (some (eaddr A (i * tyItem.sz)))), (28, .pointer (some ((eaddr A (i * tyItem.sz)).add 1))), (29, .agg #[str ((l.getD i ((0, [], [], 0, ⟨none, 0, []⟩, ⟨none, 0, []⟩, false) : Int × List UInt8 × List UInt8 × Int × Vs (List UInt8 × List UInt8) × Vs UInt8 × Bool)).2.1), str ((l.getD i ((0, [], [], 0, ⟨none, 0, []⟩, ⟨none, 0, []⟩, false) : Int × List UInt8 × List UInt8 × Int × Vs (List UInt8 × List UInt8) × Vs UInt8 × Bool)).2.2.1), .int .i64 ((l.getD i ((0, [], [], 0, ⟨none, 0, []⟩, ⟨none, 0, []⟩, false) : Int × List UInt8 × List UInt8 × Int × Vs (List UInt8 × List UInt8) × Vs UInt8 × Bool)).2.2.2.1), .slice ((l.getD i ((0, [], [], 0, ⟨none, 0, []⟩, ⟨none, 0, []⟩, false) : Int × List UInt8 × List UInt8 × Int × Vs (List UInt8 × List UInt8) × Vs UInt8 × Bool)).2.2.2.2.1.A) ((l.getD i ((0, [], [], 0, ⟨none, 0, []⟩, ⟨none, 0, []⟩, false) : Int × List UInt8 × List UInt8 × Int × Vs (List UInt8 × List UInt8) × Vs UInt8 × Bool)).2.2.2.2.1.l).length ((l.getD i ((0, [], [], 0, ⟨none, 0, []⟩, ⟨none, 0, []⟩, false) : Int × List UInt8 × List UInt8 × Int × Vs (List UInt8 × List UInt8) × Vs UInt8 × Bool)).2.2.2.2.1.C)]), (30, .slice A2 m.length C2), (31, .int .i64 (i : Int)), (32, .pointer (some (eaddr A2 (i * tyItem.sz)))), (33, .pointer (some ((eaddr A2 (i * tyItem.sz)).add 1))), (34, .agg #[str ((m.getD i ((0, [], [], 0, ⟨none, 0, []⟩, ⟨none, 0, []⟩, false) : Int × List UInt8 × List UInt8 × Int × Vs (List UInt8 × List UInt8) × Vs UInt8 × Bool)).2.1), str ((m.getD i ((0, [], [], 0, ⟨none, 0, []⟩, ⟨none, 0, []⟩, false) : Int × List UInt8 × List UInt8 × Int × Vs (List UInt8 × List UInt8) × Vs UInt8 × Bool)).2.2.1), .int .i64 ((m.getD i ((0, [], [], 0, ⟨none, 0, []⟩, ⟨none, 0, []⟩, false) : Int × List UInt8 × List UInt8 × Int × Vs (List UInt8 × List UInt8) × Vs UInt8 × Bool)).2.2.2.1), .slice ((m.getD i ((0, [], [], 0, ⟨none, 0, []⟩, ⟨none, 0, []⟩, false) : Int × List UInt8 × List UInt8 × Int × Vs (List UInt8 × List UInt8) × Vs UInt8 × Bool)).2.2.2.2.1.A) ((m.getD i ((0, [], [], 0, ⟨none, 0, []⟩, ⟨none, 0, []⟩, false) : Int × List UInt8 × List UInt8 × Int × Vs (List UInt8 × List UInt8) × Vs UInt8 × Bool)).2.2.2.2.1.l).length ((m.getD i ((0, [], [], 0, ⟨none, 0, []⟩, ⟨none, 0, []⟩, false) : Int × List UInt8 × List UInt8 × Int × Vs (List UInt8 × List UInt8) × Vs UInt8 × Bool)).2.2.2.2.1.C)]), (35, .bool (decide ((⟨(l.getD i ((0, [], [], 0, ⟨none, 0, []⟩, ⟨none, 0, []⟩, false) : Int × List UInt8 × List UInt8 × Int × Vs (List UInt8 × List UInt8) × Vs UInt8 × Bool)).2.1, (l.getD i ((0, [], [], 0, ⟨none, 0, []⟩, ⟨none, 0, []⟩, false) : Int × List UInt8 × List UInt8 × Int × Vs (List UInt8 × List UInt8) × Vs UInt8 × Bool)).2.2.1, (l.getD i ((0, [], [], 0, ⟨none, 0, []⟩, ⟨none, 0, []⟩, false) : Int × List UInt8 × List UInt8 × Int × Vs (List UInt8 × List UInt8) × Vs UInt8 × Bool)).2.2.2.1, (l.getD i ((0, [], [], 0, ⟨none, 0, []⟩, ⟨none, 0, []⟩, false) : Int × List UInt8 × List UInt8 × Int × Vs (List UInt8 × List UInt8) × Vs UInt8 × Bool)).2.2.2.2.1.l⟩ : HeadV) = ⟨(m.getD i ((0, [], [], 0, ⟨none, 0, []⟩, ⟨none, 0, []⟩, false) : Int × List UInt8 × List UInt8 × Int × Vs (List UInt8 × List UInt8) × Vs UInt8 × Bool)).2.1, (m.getD i ((0, [], [], 0, ⟨none, 0, []⟩, ⟨none, 0, []⟩, false) : Int × List UInt8 × List UInt8 × Int × Vs (List UInt8 × List UInt8) × Vs UInt8 × Bool)).2.2.1, (m.getD i ((0, [], [], 0, ⟨none, 0, []⟩, ⟨none, 0, []⟩, false) : Int × List UInt8 × List UInt8 × Int × Vs (List UInt8 × List UInt8) × Vs UInt8 × Bool)).2.2.2.1, (m.getD i ((0, [], [], 0, ⟨none, 0, []⟩, ⟨none, 0, []⟩, false) : Int × List UInt8 × List UInt8 × Int × Vs (List UInt8 × List UInt8) × Vs UInt8 × Bool)).2.2.2.2.1.l⟩))), (36, .bool true), (37, .bool true), (38, .bool true), (39, undef), (40, undef), (41, undef), (42, undef), (43, undef), (44, undef), (45, undef), (46, undef), (47, undef), (48, undef), (49, undef), (50, undef), (51, .bool true)]) tf_mixed (by kernel_rfl) (by kernel_rfl) (by kernel_rfl) ?_
            refine ⟨⟨.inr ⟨_, rfl, rfl, .inl ⟨rfl, Do.move rfl⟩⟩, .inr ⟨_, rfl, rfl, .inl ⟨rfl, Do.move rfl⟩⟩, .inr ⟨_, rfl, rfl, .inl ⟨rfl, Do.indexL i h Tryz.underlying40 tf_sz49 rfl rfl rfl (by omega)⟩⟩, .inr ⟨_, rfl, rfl, .inl ⟨rfl, Do.fieldAddr tf_fo49_0 rfl⟩⟩, .inr ⟨_, rfl, rfl, .inl ⟨rfl, Do.load (v := .int .i64 ((l.getD i ((0, [], [], 0, ⟨none, 0, []⟩, ⟨none, 0, []⟩, false) : Int × List UInt8 × List UInt8 × Int × Vs (List UInt8 × List UInt8) × Vs UInt8 × Bool)).1)) tf_flat3 rfl (Rd.cell_at h (j := 0) (getD_some ((0, [], [], 0, ⟨none, 0, []⟩, ⟨none, 0, []⟩, false) : Int × List UInt8 × List UInt8 × Int × Vs (List UInt8 × List UInt8) × Vs UInt8 × Bool) (by omega)) rfl)⟩⟩, .inr ⟨_, rfl, rfl, .inl ⟨rfl, Do.move rfl⟩⟩, .inr ⟨_, rfl, rfl, .inl ⟨rfl, Do.move rfl⟩⟩, .inr ⟨_, rfl, rfl, .inl ⟨rfl, Do.indexL i h2 Tryz.underlying40 tf_sz49 rfl rfl rfl (by omega)⟩⟩, .inr ⟨_, rfl, rfl, .inl ⟨rfl, Do.fieldAddr tf_fo49_0 rfl⟩⟩, .inr ⟨_, rfl, rfl, .inl ⟨rfl, Do.load (v := .int .i64 ((m.getD i ((0, [], [], 0, ⟨none, 0, []⟩, ⟨none, 0, []⟩, false) : Int × List UInt8 × List UInt8 × Int × Vs (List UInt8 × List UInt8) × Vs UInt8 × Bool)).1)) tf_flat3 rfl (Rd.cell_at h2 (j := 0) (getD_some ((0, [], [], 0, ⟨none, 0, []⟩, ⟨none, 0, []⟩, false) : Int × List UInt8 × List UInt8 × Int × Vs (List UInt8 × List UInt8) × Vs UInt8 × Bool) (by omega)) rfl)⟩⟩, .inr ⟨_, rfl, rfl, .inl ⟨rfl, Do.asBool (Do.nei rfl rfl) (by rw [decide_eq_true e1]; rfl)⟩⟩, .inr ⟨_, rfl, rfl, .inl ⟨rfl, Do.move rfl⟩⟩, .inr ⟨_, rfl, rfl, .inl ⟨⟨_, _, _, rfl, rfl, rfl, rfl⟩, Do.move rfl⟩⟩, .inr ⟨_, rfl, rfl, .inl ⟨⟨_, _, _, rfl, rfl, rfl, rfl⟩, Do.move rfl⟩⟩, .inr ⟨_, rfl, rfl, .inl ⟨⟨_, _, _, rfl, rfl, rfl, rfl⟩, Do.indexL i h Tryz.underlying40 tf_sz49 rfl rfl rfl (by omega)⟩⟩, .inr ⟨_, rfl, rfl, .inl ⟨⟨_, _, _, rfl, rfl, rfl, rfl⟩, Do.fieldAddr tf_fo49_3 rfl⟩⟩, .inr ⟨_, rfl, rfl, .inl ⟨⟨_, _, _, rfl, rfl, rfl, rfl⟩, Do.load (v := .bool ((l.getD i ((0, [], [], 0, ⟨none, 0, []⟩, ⟨none, 0, []⟩, false) : Int × List UInt8 × List UInt8 × Int × Vs (List UInt8 × List UInt8) × Vs UInt8 × Bool)).2.2.2.2.2.2)) tf_flat4 rfl (Rd.cell_at h (j := 6) (getD_some ((0, [], [], 0, ⟨none, 0, []⟩, ⟨none, 0, []⟩, false) : Int × List UInt8 × List UInt8 × Int × Vs (List UInt8 × List UInt8) × Vs UInt8 × Bool) (by omega)) rfl)⟩⟩, .inr ⟨_, rfl, rfl, .inl ⟨⟨_, _, _, rfl, rfl, rfl, rfl⟩, Do.move rfl⟩⟩, .inr ⟨_, rfl, rfl, .inl ⟨⟨_, _, _, rfl, rfl, rfl, rfl⟩, Do.move rfl⟩⟩, .inr ⟨_, rfl, rfl, .inl ⟨⟨_, _, _, rfl, rfl, rfl, rfl⟩, Do.indexL i h2 Tryz.underlying40 tf_sz49 rfl rfl rfl (by omega)⟩⟩, .inr ⟨_, rfl, rfl, .inl ⟨⟨_, _, _, rfl, rfl, rfl, rfl⟩, Do.fieldAddr tf_fo49_3 rfl⟩⟩, .inr ⟨_, rfl, rfl, .inl ⟨⟨_, _, _, rfl, rfl, rfl, rfl⟩, Do.load (v := .bool ((m.getD i ((0, [], [], 0, ⟨none, 0, []⟩, ⟨none, 0, []⟩, false) : Int × List UInt8 × List UInt8 × Int × Vs (List UInt8 × List UInt8) × Vs UInt8 × Bool)).2.2.2.2.2.2)) tf_flat4 rfl (Rd.cell_at h2 (j := 6) (getD_some ((0, [], [], 0, ⟨none, 0, []⟩, ⟨none, 0, []⟩, false) : Int × List UInt8 × List UInt8 × Int × Vs (List UInt8 × List UInt8) × Vs UInt8 × Bool) (by omega)) rfl)⟩⟩, .inr ⟨_, rfl, rfl, .inl ⟨⟨_, _, _, rfl, rfl, rfl, rfl⟩, Do.asBool (Do.neb Tryz.underlying4 rfl rfl) (by rw [e2, beq_self_eq_true]; rfl)⟩⟩, .inr ⟨_, rfl, rfl, .inl ⟨rfl, Do.pickF rfl rfl⟩⟩, .inr ⟨_, rfl, rfl, .inl ⟨rfl, Do.move rfl⟩⟩, .inr ⟨_, rfl, rfl, .inl ⟨⟨_, _, _, rfl, rfl, rfl, rfl⟩, Do.move rfl⟩⟩, .inr ⟨_, rfl, rfl, .inl ⟨⟨_, _, _, rfl, rfl, rfl, rfl⟩, Do.move rfl⟩⟩, .inr ⟨_, rfl, rfl, .inl ⟨⟨_, _, _, rfl, rfl, rfl, rfl⟩, Do.indexL i h Tryz.underlying40 tf_sz49 rfl rfl rfl (by omega)⟩⟩, .inr ⟨_, rfl, rfl, .inl ⟨⟨_, _, _, rfl, rfl, rfl, rfl⟩, Do.fieldAddr tf_fo49_1 rfl⟩⟩, .inr ⟨_, rfl, rfl, .inl ⟨⟨_, _, _, rfl, rfl, rfl, rfl⟩, Do.loadN (cs := [str ((l.getD i ((0, [], [], 0, ⟨none, 0, []⟩, ⟨none, 0, []⟩, false) : Int × List UInt8 × List UInt8 × Int × Vs (List UInt8 × List UInt8) × Vs UInt8 × Bool)).2.1), str ((l.getD i ((0, [], [], 0, ⟨none, 0, []⟩, ⟨none, 0, []⟩, false) : Int × List UInt8 × List UInt8 × Int × Vs (List UInt8 × List UInt8) × Vs UInt8 × Bool)).2.2.1), .int .i64 ((l.getD i ((0, [], [], 0, ⟨none, 0, []⟩, ⟨none, 0, []⟩, false) : Int × List UInt8 × List UInt8 × Int × Vs (List UInt8 × List UInt8) × Vs UInt8 × Bool)).2.2.2.1), .slice ((l.getD i ((0, [], [], 0, ⟨none, 0, []⟩, ⟨none, 0, []⟩, false) : Int × List UInt8 × List UInt8 × Int × Vs (List UInt8 × List UInt8) × Vs UInt8 × Bool)).2.2.2.2.1.A) ((l.getD i ((0, [], [], 0, ⟨none, 0, []⟩, ⟨none, 0, []⟩, false) : Int × List UInt8 × List UInt8 × Int × Vs (List UInt8 × List UInt8) × Vs UInt8 × Bool)).2.2.2.2.1.l).length ((l.getD i ((0, [], [], 0, ⟨none, 0, []⟩, ⟨none, 0, []⟩, false) : Int × List UInt8 × List UInt8 × Int × Vs (List UInt8 × List UInt8) × Vs UInt8 × Bool)).2.2.2.2.1.C)]) tf_agg47 rfl rfl (Rd.cellsPart h (getD_some ((0, [], [], 0, ⟨none, 0, []⟩, ⟨none, 0, []⟩, false) : Int × List UInt8 × List UInt8 × Int × Vs (List UInt8 × List UInt8) × Vs UInt8 × Bool) (by omega)) 1 _ (by intro j v hj; rcases j with _ | _ | _ | _ | j <;> first | exact hj | cases hj))⟩⟩, .inr ⟨_, rfl, rfl, .inl ⟨⟨_, _, _, rfl, rfl, rfl, rfl⟩, Do.move rfl⟩⟩, .inr ⟨_, rfl, rfl, .inl ⟨⟨_, _, _, rfl, rfl, rfl, rfl⟩, Do.move rfl⟩⟩, .inr ⟨_, rfl, rfl, .inl ⟨⟨_, _, _, rfl, rfl, rfl, rfl⟩, Do.indexL i h2 Tryz.underlying40 tf_sz49 rfl rfl rfl (by omega)⟩⟩, .inr ⟨_, rfl, rfl, .inl ⟨⟨_, _, _, rfl, rfl, rfl, rfl⟩, Do.fieldAddr tf_fo49_1 rfl⟩⟩, .inr ⟨_, rfl, rfl, .inl ⟨⟨_, _, _, rfl, rfl, rfl, rfl⟩, Do.loadN (cs := [str ((m.getD i ((0, [], [], 0, ⟨none, 0, []⟩, ⟨none, 0, []⟩, false) : Int × List UInt8 × List UInt8 × Int × Vs (List UInt8 × List UInt8) × Vs UInt8 × Bool)).2.1), str ((m.getD i ((0, [], [], 0, ⟨none, 0, []⟩, ⟨none, 0, []⟩, false) : Int × List UInt8 × List UInt8 × Int × Vs (List UInt8 × List UInt8) × Vs UInt8 × Bool)).2.2.1), .int .i64 ((m.getD i ((0, [], [], 0, ⟨none, 0, []⟩, ⟨none, 0, []⟩, false) : Int × List UInt8 × List UInt8 × Int × Vs (List UInt8 × List UInt8) × Vs UInt8 × Bool)).2.2.2.1), .slice ((m.getD i ((0, [], [], 0, ⟨none, 0, []⟩, ⟨none, 0, []⟩, false) : Int × List UInt8 × List UInt8 × Int × Vs (List UInt8 × List UInt8) × Vs UInt8 × Bool)).2.2.2.2.1.A) ((m.getD i ((0, [], [], 0, ⟨none, 0, []⟩, ⟨none, 0, []⟩, false) : Int × List UInt8 × List UInt8 × Int × Vs (List UInt8 × List UInt8) × Vs UInt8 × Bool)).2.2.2.2.1.l).length ((m.getD i ((0, [], [], 0, ⟨none, 0, []⟩, ⟨none, 0, []⟩, false) : Int × List UInt8 × List UInt8 × Int × Vs (List UInt8 × List UInt8) × Vs UInt8 × Bool)).2.2.2.2.1.C)]) tf_agg47 rfl rfl (Rd.cellsPart h2 (getD_some ((0, [], [], 0, ⟨none, 0, []⟩, ⟨none, 0, []⟩, false) : Int × List UInt8 × List UInt8 × Int × Vs (List UInt8 × List UInt8) × Vs UInt8 × Bool) (by omega)) 1 _ (by intro j v hj; rcases j with _ | _ | _ | _ | j <;> first | exact hj | cases hj))⟩⟩, .inr ⟨_, rfl, rfl, .inl ⟨⟨_, _, _, rfl, rfl, rfl, rfl⟩, Do.call tf_body49 rfl (samehead_ok (m := (l.getD i ((0, [], [], 0, ⟨none, 0, []⟩, ⟨none, 0, []⟩, false) : Int × List UInt8 × List UInt8 × Int × Vs (List UInt8 × List UInt8) × Vs UInt8 × Bool)).2.1) (t := (l.getD i ((0, [], [], 0, ⟨none, 0, []⟩, ⟨none, 0, []⟩, false) : Int × List UInt8 × List UInt8 × Int × Vs (List UInt8 × List UInt8) × Vs UInt8 × Bool)).2.2.1) (minor := (l.getD i ((0, [], [], 0, ⟨none, 0, []⟩, ⟨none, 0, []⟩, false) : Int × List UInt8 × List UInt8 × Int × Vs (List UInt8 × List UInt8) × Vs UInt8 × Bool)).2.2.2.1) (m2 := (m.getD i ((0, [], [], 0, ⟨none, 0, []⟩, ⟨none, 0, []⟩, false) : Int × List UInt8 × List UInt8 × Int × Vs (List UInt8 × List UInt8) × Vs UInt8 × Bool)).2.1) (t2 := (m.getD i ((0, [], [], 0, ⟨none, 0, []⟩, ⟨none, 0, []⟩, false) : Int × List UInt8 × List UInt8 × Int × Vs (List UInt8 × List UInt8) × Vs UInt8 × Bool)).2.2.1) (minor2 := (m.getD i ((0, [], [], 0, ⟨none, 0, []⟩, ⟨none, 0, []⟩, false) : Int × List UInt8 × List UInt8 × Int × Vs (List UInt8 × List UInt8) × Vs UInt8 × Bool)).2.2.2.1) (fs := (l.getD i ((0, [], [], 0, ⟨none, 0, []⟩, ⟨none, 0, []⟩, false) : Int × List UInt8 × List UInt8 × Int × Vs (List UInt8 × List UInt8) × Vs UInt8 × Bool)).2.2.2.2.1.l) (gs := (m.getD i ((0, [], [], 0, ⟨none, 0, []⟩, ⟨none, 0, []⟩, false) : Int × List UInt8 × List UInt8 × Int × Vs (List UInt8 × List UInt8) × Vs UInt8 × Bool)).2.2.2.2.1.l) (he _ (getD_mem (l := l) (i := i) (d := ((0, [], [], 0, ⟨none, 0, []⟩, ⟨none, 0, []⟩, false) : Int × List UInt8 × List UInt8 × Int × Vs (List UInt8 × List UInt8) × Vs UInt8 × Bool)) (by omega))).1 (he2 _ (getD_mem (l := m) (i := i) (d := ((0, [], [], 0, ⟨none, 0, []⟩, ⟨none, 0, []⟩, false) : Int × List UInt8 × List UInt8 × Int × Vs (List UInt8 × List UInt8) × Vs UInt8 × Bool)) (by omega))).1)⟩⟩, .inr ⟨_, rfl, rfl, .inl ⟨⟨_, _, _, rfl, rfl, rfl, rfl⟩, Do.asBool (Do.not rfl) (by rw [decide_eq_false e3]; rfl)⟩⟩, .inr ⟨_, rfl, rfl, .inl ⟨rfl, Do.pickF rfl rfl⟩⟩, .inr ⟨_, rfl, rfl, .inl ⟨rfl, Do.move rfl⟩⟩, .inr ⟨_, rfl, rfl, .inr ⟨⟨_, _, _, rfl, rfl, rfl, rfl⟩, rfl⟩⟩, .inr ⟨_, rfl, rfl, .inr ⟨⟨_, _, _, rfl, rfl, rfl, rfl⟩, rfl⟩⟩, .inr ⟨_, rfl, rfl, .inr ⟨⟨_, _, _, rfl, rfl, rfl, rfl⟩, rfl⟩⟩, .inr ⟨_, rfl, rfl, .inr ⟨⟨_, _, _, rfl, rfl, rfl, rfl⟩, rfl⟩⟩, .inr ⟨_, rfl, rfl, .inr ⟨⟨_, _, _, rfl, rfl, rfl, rfl⟩, rfl⟩⟩, .inr ⟨_, rfl, rfl, .inr ⟨⟨_, _, _, rfl, rfl, rfl, rfl⟩, rfl⟩⟩, .inr ⟨_, rfl, rfl, .inr ⟨⟨_, _, _, rfl, rfl, rfl, rfl⟩, rfl⟩⟩, .inr ⟨_, rfl, rfl, .inr ⟨⟨_, _, _, rfl, rfl, rfl, rfl⟩, rfl⟩⟩, .inr ⟨_, rfl, rfl, .inr ⟨⟨_, _, _, rfl, rfl, rfl, rfl⟩, rfl⟩⟩, .inr ⟨_, rfl, rfl, .inr ⟨⟨_, _, _, rfl, rfl, rfl, rfl⟩, rfl⟩⟩, .inr ⟨_, rfl, rfl, .inr ⟨⟨_, _, _, rfl, rfl, rfl, rfl⟩, rfl⟩⟩, .inr ⟨_, rfl, rfl, .inr ⟨⟨_, _, _, rfl, rfl, rfl, rfl⟩, rfl⟩⟩, .inr ⟨_, rfl, rfl, .inl ⟨rfl, Do.pickT rfl rfl⟩⟩, trivial⟩, by kernel_rfl, ?_⟩
            refine At.mono (E' := [(0, .slice A l.length C), (1, .slice A2 m.length C2), (5, .int .i64 (i : Int)), (68, .bool true)]) ⟨rfl, rfl, rfl, rfl, trivial⟩ ?_
            refine At.condT rfl ?_
            refine At.seq ?_
            refine At.region ?_
            refine AtL.assign (.inl rfl) rfl rfl ?_
            refine AtL.done ?_
            exact At.ret Tryz.func27 rfl rfl (⟨congrArg Value.bool (decide_eq_false (map_ne_at hil him fun h9 => e3 (congrArg ItV.hd h9))).symm, rfl⟩)
        · skip
          refine At.draw (es := []) (pv := [(0, .slice A l.length C), (1, .int .i64 (i : Int)), (2, .pointer (some (eaddr A (i * tyItem.sz)))), (3, .pointer (some ((eaddr A (i * tyItem.sz)).add 0))), (4, .int .i64 ((l.getD i ((0, [], [], 0, ⟨none, 0, []⟩, ⟨none, 0, []⟩, false) : Int × List UInt8 × List UInt8 × Int × Vs (List UInt8 × List UInt8) × Vs UInt8 × Bool)).1)), (5, .slice A2 m.length C2), (6, .int .i64 (i : Int)), (7, .pointer (some (eaddr A2 (i * tyItem.sz)))), (8, .pointer (some ((eaddr A2 (i * tyItem.sz)).add 0))), (9, .int .i64 ((m.getD i ((0, [], [], 0, ⟨none, 0, []⟩, ⟨none, 0, []⟩, false) : Int × List UInt8 × List UInt8 × Int × Vs (List UInt8 × List UInt8) × Vs UInt8 × Bool)).1)), (10, .bool false), (11, .bool false), (12, .slice A l.length C), (13, .int .i64 (i : Int)), (14, .pointer (some (eaddr A (i * tyItem.sz)))), (15, .pointer (some ((eaddr A (i * tyItem.sz)).add 6))), (16, .bool ((l.getD i ((0, [], [], 0, ⟨none, 0, []⟩, ⟨none, 0, []⟩, false) : Int × List UInt8 × List UInt8 × Int × Vs (List UInt8 × List UInt8) × Vs UInt8 × Bool)).2.2.2.2.2.2)), (17, .slice A2 m.length C2), (18, .int .i64 (i : Int)), (19, .pointer (some (eaddr A2 (i * tyItem.sz)))), (20, .pointer (some ((eaddr A2 (i * tyItem.sz)).add 6))), (21, .bool ((m.getD i ((0, [], [], 0, ⟨none, 0, []⟩, ⟨none, 0, []⟩, false) : Int × List UInt8 × List UInt8 × Int × Vs (List UInt8 × List UInt8) × Vs UInt8 × Bool)).2.2.2.2.2.2)), (22, .bool true), (23, .bool true), (24, .bool true), (25, undef), (26, undef), (27, undef), (28, undef), (29, undef), (30, undef), (31, undef), (32, undef), (33, undef), (34, undef), (35, undef), (36, undef), (37, .bool true), (38, .bool true), (39, undef), (40, undef), (41, undef), (42, undef), (43, undef), (44, undef), (45, undef), (46, undef), (47, undef), (48, undef), (49, undef), (50, undef), (51, .bool true)]) tf_mixed (by kernel_rfl) (by kernel_rfl) (by kernel_rfl) ?_
          refine ⟨⟨.inr ⟨_, rfl, rfl, .inl ⟨rfl, Do.move rfl⟩⟩, .inr ⟨_, rfl, rfl, .inl ⟨rfl, Do.move rfl⟩⟩, .inr ⟨_, rfl, rfl, .inl ⟨rfl, Do.indexL i h Tryz.underlying40 tf_sz49 rfl rfl rfl (by omega)⟩⟩, .inr ⟨_, rfl, rfl, .inl ⟨rfl, Do.fieldAddr tf_fo49_0 rfl⟩⟩, .inr ⟨_, rfl, rfl, .inl ⟨rfl, Do.load (v := .int .i64 ((l.getD i ((0, [], [], 0, ⟨none, 0, []⟩, ⟨none, 0, []⟩, false) : Int × List UInt8 × List UInt8 × Int × Vs (List UInt8 × List UInt8) × Vs UInt8 × Bool)).1)) tf_flat3 rfl (Rd.cell_at h (j := 0) (getD_some ((0, [], [], 0, ⟨none, 0, []⟩, ⟨none, 0, []⟩, false) : Int × List UInt8 × List UInt8 × Int × Vs (List UInt8 × List UInt8) × Vs UInt8 × Bool) (by omega)) rfl)⟩⟩, .inr ⟨_, rfl, rfl, .inl ⟨rfl, Do.move rfl⟩⟩, .inr ⟨_, rfl, rfl, .inl ⟨rfl, Do.move rfl⟩⟩, .inr ⟨_, rfl, rfl, .inl ⟨rfl, Do.indexL i h2 Tryz.underlying40 tf_sz49 rfl rfl rfl (by omega)⟩⟩, .inr ⟨_, rfl, rfl, .inl ⟨rfl, Do.fieldAddr tf_fo49_0 rfl⟩⟩, .inr ⟨_, rfl, rfl, .inl ⟨rfl, Do.load (v := .int .i64 ((m.getD i ((0, [], [], 0, ⟨none, 0, []⟩, ⟨none, 0, []⟩, false) : Int × List UInt8 × List UInt8 × Int × Vs (List UInt8 × List UInt8) × Vs UInt8 × Bool)).1)) tf_flat3 rfl (Rd.cell_at h2 (j := 0) (getD_some ((0, [], [], 0, ⟨none, 0, []⟩, ⟨none, 0, []⟩, false) : Int × List UInt8 × List UInt8 × Int × Vs (List UInt8 × List UInt8) × Vs UInt8 × Bool) (by omega)) rfl)⟩⟩, .inr ⟨_, rfl, rfl, .inl ⟨rfl, Do.asBool (Do.nei rfl rfl) (by rw [decide_eq_true e1]; rfl)⟩⟩, .inr ⟨_, rfl, rfl, .inl ⟨rfl, Do.move rfl⟩⟩, .inr ⟨_, rfl, rfl, .inl ⟨⟨_, _, _, rfl, rfl, rfl, rfl⟩, Do.move rfl⟩⟩, .inr ⟨_, rfl, rfl, .inl ⟨⟨_, _, _, rfl, rfl, rfl, rfl⟩, Do.move rfl⟩⟩, .inr ⟨_, rfl, rfl, .inl ⟨⟨_, _, _, rfl, rfl, rfl, rfl⟩, Do.indexL i h Tryz.underlying40 tf_sz49 rfl rfl rfl (by omega)⟩⟩, .inr ⟨_, rfl, rfl, .inl ⟨⟨_, _, _, rfl, rfl, rfl, rfl⟩, Do.fieldAddr tf_fo49_3 rfl⟩⟩, .inr ⟨_, rfl, rfl, .inl ⟨⟨_, _, _, rfl, rfl, rfl, rfl⟩, Do.load (v := .bool ((l.getD i ((0, [], [], 0, ⟨none, 0, []⟩, ⟨none, 0, []⟩, false) : Int × List UInt8 × List UInt8 × Int × Vs (List UInt8 × List UInt8) × Vs UInt8 × Bool)).2.2.2.2.2.2)) tf_flat4 rfl (Rd.cell_at h (j := 6) (getD_some ((0, [], [], 0, ⟨none, 0, []⟩, ⟨none, 0, []⟩, false) : Int × List UInt8 × List UInt8 × Int × Vs (List UInt8 × List UInt8) × Vs UInt8 × Bool) (by omega)) rfl)⟩⟩, .inr ⟨_, rfl, rfl, .inl ⟨⟨_, _, _, rfl, rfl, rfl, rfl⟩, Do.move rfl⟩⟩, .inr ⟨_, rfl, rfl, .inl ⟨⟨_, _, _, rfl, rfl, rfl, rfl⟩, Do.move rfl⟩⟩, .inr ⟨_, rfl, rfl, .inl ⟨⟨_, _, _, rfl, rfl, rfl, rfl⟩, Do.indexL i h2 Tryz.underlying40 tf_sz49 rfl rfl rfl (by omega)⟩⟩, .inr ⟨_, rfl, rfl, .inl ⟨⟨_, _, _, rfl, rfl, rfl, rfl⟩, Do.fieldAddr tf_fo49_3 rfl⟩⟩, .inr ⟨_, rfl, rfl, .inl ⟨⟨_, _, _, rfl, rfl, rfl, rfl⟩, Do.load (v := .bool ((m.getD i ((0, [], [], 0, ⟨none, 0, []⟩, ⟨none, 0, []⟩, false) : Int × List UInt8 × List UInt8 × Int × Vs (List UInt8 × List UInt8) × Vs UInt8 × Bool)).2.2.2.2.2.2)) tf_flat4 rfl (Rd.cell_at h2 (j := 6) (getD_some ((0, [], [], 0, ⟨none, 0, []⟩, ⟨none, 0, []⟩, false) : Int × List UInt8 × List UInt8 × Int × Vs (List UInt8 × List UInt8) × Vs UInt8 × Bool) (by omega)) rfl)⟩⟩, .inr ⟨_, rfl, rfl, .inl ⟨⟨_, _, _, rfl, rfl, rfl, rfl⟩, Do.asBool (Do.neb Tryz.underlying4 rfl rfl) (by rw [beq_eq_false_iff_ne.2 e2]; rfl)⟩⟩, .inr ⟨_, rfl, rfl, .inl ⟨rfl, Do.pickF rfl rfl⟩⟩, .inr ⟨_, rfl, rfl, .inl ⟨rfl, Do.move rfl⟩⟩, .inr ⟨_, rfl, rfl, .inr ⟨⟨_, _, _, rfl, rfl, rfl, rfl⟩, rfl⟩⟩, .inr ⟨_, rfl, rfl, .inr ⟨⟨_, _, _, rfl, rfl, rfl, rfl⟩, rfl⟩⟩, .inr ⟨_, rfl, rfl, .inr ⟨⟨_, _, _, rfl, rfl, rfl, rfl⟩, rfl⟩⟩, .inr ⟨_, rfl, rfl, .inr ⟨⟨_, _, _, rfl, rfl, rfl, rfl⟩, rfl⟩⟩, .inr ⟨_, rfl, rfl, .inr ⟨⟨_, _, _, rfl, rfl, rfl, rfl⟩, rfl⟩⟩, .inr ⟨_, rfl, rfl, .inr ⟨⟨_, _, _, rfl, rfl, rfl, rfl⟩, rfl⟩⟩, .inr ⟨_, rfl, rfl, .inr ⟨⟨_, _, _, rfl, rfl, rfl, rfl⟩, rfl⟩⟩, .inr ⟨_, rfl, rfl, .inr ⟨⟨_, _, _, rfl, rfl, rfl, rfl⟩, rfl⟩⟩, .inr ⟨_, rfl, rfl, .inr ⟨⟨_, _, _, rfl, rfl, rfl, rfl⟩, rfl⟩⟩, .inr ⟨_, rfl, rfl, .inr ⟨⟨_, _, _, rfl, rfl, rfl, rfl⟩, rfl⟩⟩, .inr ⟨_, rfl, rfl, .inr ⟨⟨_, _, _, rfl, rfl, rfl, rfl⟩, rfl⟩⟩, .inr ⟨_, rfl, rfl, .inr ⟨⟨_, _, _, rfl, rfl, rfl, rfl⟩, rfl⟩⟩, .inr ⟨_, rfl, rfl, .inl ⟨rfl, Do.pickT rfl rfl⟩⟩, .inr ⟨_, rfl, rfl, .inl ⟨rfl, Do.move rfl⟩⟩, .inr ⟨_, rfl, rfl, .inr ⟨⟨_, _, _, rfl, rfl, rfl, rfl⟩, rfl⟩⟩, .inr ⟨_, rfl, rfl, .inr ⟨⟨_, _, _, rfl, rfl, rfl, rfl⟩, rfl⟩⟩, .inr ⟨_, rfl, rfl, .inr ⟨⟨_, _, _, rfl, rfl, rfl, rfl⟩, rfl⟩⟩, .inr ⟨_, rfl, rfl, .inr ⟨⟨_, _, _, rfl, rfl, rfl, rfl⟩, rfl⟩⟩, .inr ⟨_, rfl, rfl, .inr ⟨⟨_, _, _, rfl, rfl, rfl, rfl⟩, rfl⟩⟩, .inr ⟨_, rfl, rfl, .inr ⟨⟨_, _, _, rfl, rfl, rfl, rfl⟩, rfl⟩⟩, .inr ⟨_, rfl, rfl, .inr ⟨⟨_, _, _, rfl, rfl, rfl, rfl⟩, rfl⟩⟩, .inr ⟨_, rfl, rfl, .inr ⟨⟨_, _, _, rfl, rfl, rfl, rfl⟩, rfl⟩⟩, .inr ⟨_, rfl, rfl, .inr ⟨⟨_, _, _, rfl, rfl, rfl, rfl⟩, rfl⟩⟩, .inr ⟨_, rfl, rfl, .inr ⟨⟨_, _, _, rfl, rfl, rfl, rfl⟩, rfl⟩⟩, .inr ⟨_, rfl, rfl, .inr ⟨⟨_, _, _, rfl, rfl, rfl, rfl⟩, rfl⟩⟩, .inr ⟨_, rfl, rfl, .inr ⟨⟨_, _, _, rfl, rfl, rfl, rfl⟩, rfl⟩⟩, .inr ⟨_, rfl, rfl, .inl ⟨rfl, Do.pickT rfl rfl⟩⟩, trivial⟩, by kernel_rfl, ?_⟩
          refine At.mono (E' := [(0, .slice A l.length C), (1, .slice A2 m.length C2), (5, .int .i64 (i : Int)), (68, .bool true)]) ⟨rfl, rfl, rfl, rfl, trivial⟩ ?_
          refine At.condT rfl ?_
          refine At.seq ?_
          refine At.region ?_
          refine AtL.assign (.inl rfl) rfl rfl ?_
          refine AtL.done ?_
          exact At.ret Tryz.func27 rfl rfl (⟨congrArg Value.bool (decide_eq_false (map_ne_at hil him fun h9 => e2 (congrArg ItV.keep h9))).symm, rfl⟩)
      · skip
        refine At.draw (es := []) (pv := [(0, .slice A l.length C), (1, .int .i64 (i : Int)), (2, .pointer (some (eaddr A (i * tyItem.sz)))), (3, .pointer (some ((eaddr A (i * tyItem.sz)).add 0))), (4, .int .i64 ((l.getD i ((0, [], [], 0, ⟨none, 0, []⟩, ⟨none, 0, []⟩, false) : Int × List UInt8 × List UInt8 × Int × Vs (List UInt8 × List UInt8) × Vs UInt8 × Bool)).1)), (5, .slice A2 m.length C2), (6, .int .i64 (i : Int)), (7, .pointer (some (eaddr A2 (i * tyItem.sz)))), (8, .pointer (some ((eaddr A2 (i * tyItem.sz)).add 0))), (9, .int .i64 ((m.getD i ((0, [], [], 0, ⟨none, 0, []⟩, ⟨none, 0, []⟩, false) : Int × List UInt8 × List UInt8 × Int × Vs (List UInt8 × List UInt8) × Vs UInt8 × Bool)).1)), (10, .bool true), (11, .bool true), (12, undef), (13, undef), (14, undef), (15, undef), (16, undef), (17, undef), (18, undef), (19, undef), (20, undef), (21, undef), (22, undef), (23, .bool true), (24, .bool true), (25, undef), (26, undef), (27, undef), (28, undef), (29, undef), (30, undef), (31, undef), (32, undef), (33, undef), (34, undef), (35, undef), (36, undef), (37, .bool true), (38, .bool true), (39, undef), (40, undef), (41, undef), (42, undef), (43, undef), (44, undef), (45, undef), (46, undef), (47, undef), (48, undef), (49, undef), (50, undef), (51, .bool true)]) tf_mixed (by kernel_rfl) (by kernel_rfl) (by kernel_rfl) ?_
        refine ⟨⟨.inr ⟨_, rfl, rfl, .inl ⟨rfl, Do.move rfl⟩⟩, .inr ⟨_, rfl, rfl, .inl ⟨rfl, Do.move rfl⟩⟩, .inr ⟨_, rfl, rfl, .inl ⟨rfl, Do.indexL i h Tryz.underlying40 tf_sz49 rfl rfl rfl (by omega)⟩⟩, .inr ⟨_, rfl, rfl, .inl ⟨rfl, Do.fieldAddr tf_fo49_0 rfl⟩⟩, .inr ⟨_, rfl, rfl, .inl ⟨rfl, Do.load (v := .int .i64 ((l.getD i ((0, [], [], 0, ⟨none, 0, []⟩, ⟨none, 0, []⟩, false) : Int × List UInt8 × List UInt8 × Int × Vs (List UInt8 × List UInt8) × Vs UInt8 × Bool)).1)) tf_flat3 rfl (Rd.cell_at h (j := 0) (getD_some ((0, [], [], 0, ⟨none, 0, []⟩, ⟨none, 0, []⟩, false) : Int × List UInt8 × List UInt8 × Int × Vs (List UInt8 × List UInt8) × Vs UInt8 × Bool) (by omega)) rfl)⟩⟩, .inr ⟨_, rfl, rfl, .inl ⟨rfl, Do.move rfl⟩⟩, .inr ⟨_, rfl, rfl, .inl ⟨rfl, Do.move rfl⟩⟩, .inr ⟨_, rfl, rfl, .inl ⟨rfl, Do.indexL i h2 Tryz.underlying40 tf_sz49 rfl rfl rfl (by omega)⟩⟩, .inr ⟨_, rfl, rfl, .inl ⟨rfl, Do.fieldAddr tf_fo49_0 rfl⟩⟩, .inr ⟨_, rfl, rfl, .inl ⟨rfl, Do.load (v := .int .i64 ((m.getD i ((0, [], [], 0, ⟨none, 0, []⟩, ⟨none, 0, []⟩, false) : Int × List UInt8 × List UInt8 × Int × Vs (List UInt8 × List UInt8) × Vs UInt8 × Bool)).1)) tf_flat3 rfl (Rd.cell_at h2 (j := 0) (getD_some ((0, [], [], 0, ⟨none, 0, []⟩, ⟨none, 0, []⟩, false) : Int × List UInt8 × List UInt8 × Int × Vs (List UInt8 × List UInt8) × Vs UInt8 × Bool) (by omega)) rfl)⟩⟩, .inr ⟨_, rfl, rfl, .inl ⟨rfl, Do.asBool (Do.nei rfl rfl) (by rw [decide_eq_false e1]; rfl)⟩⟩, .inr ⟨_, rfl, rfl, .inl ⟨rfl, Do.move rfl⟩⟩, .inr ⟨_, rfl, rfl, .inr ⟨⟨_, _, _, rfl, rfl, rfl, rfl⟩, rfl⟩⟩, .inr ⟨_, rfl, rfl, .inr ⟨⟨_, _, _, rfl, rfl, rfl, rfl⟩, rfl⟩⟩, .inr ⟨_, rfl, rfl, .inr ⟨⟨_, _, _, rfl, rfl, rfl, rfl⟩, rfl⟩⟩, .inr ⟨_, rfl, rfl, .inr ⟨⟨_, _, _, rfl, rfl, rfl, rfl⟩, rfl⟩⟩, .inr ⟨_, rfl, rfl, .inr ⟨⟨_, _, _, rfl, rfl, rfl, rfl⟩, rfl⟩⟩, .inr ⟨_, rfl, rfl, .inr ⟨⟨_, _, _, rfl, rfl, rfl, rfl⟩, rfl⟩⟩, .inr ⟨_, rfl, rfl, .inr ⟨⟨_, _, _, rfl, rfl, rfl, rfl⟩, rfl⟩⟩, .inr ⟨_, rfl, rfl, .inr ⟨⟨_, _, _, rfl, rfl, rfl, rfl⟩, rfl⟩⟩, .inr ⟨_, rfl, rfl, .inr ⟨⟨_, _, _, rfl, rfl, rfl, rfl⟩, rfl⟩⟩, .inr ⟨_, rfl, rfl, .inr ⟨⟨_, _, _, rfl, rfl, rfl, rfl⟩, rfl⟩⟩, .inr ⟨_, rfl, rfl, .inr ⟨⟨_, _, _, rfl, rfl, rfl, rfl⟩, rfl⟩⟩, .inr ⟨_, rfl, rfl, .inl ⟨rfl, Do.pickT rfl rfl⟩⟩, .inr ⟨_, rfl, rfl, .inl ⟨rfl, Do.move rfl⟩⟩, .inr ⟨_, rfl, rfl, .inr ⟨⟨_, _, _, rfl, rfl, rfl, rfl⟩, rfl⟩⟩, .inr ⟨_, rfl, rfl, .inr ⟨⟨_, _, _, rfl, rfl, rfl, rfl⟩, rfl⟩⟩, .inr ⟨_, rfl, rfl, .inr ⟨⟨_, _, _, rfl, rfl, rfl, rfl⟩, rfl⟩⟩, .inr ⟨_, rfl, rfl, .inr ⟨⟨_, _, _, rfl, rfl, rfl, rfl⟩, rfl⟩⟩, .inr ⟨_, rfl, rfl, .inr ⟨⟨_, _, _, rfl, rfl, rfl, rfl⟩, rfl⟩⟩, .inr ⟨_, rfl, rfl, .inr ⟨⟨_, _, _, rfl, rfl, rfl, rfl⟩, rfl⟩⟩, .inr ⟨_, rfl, rfl, .inr ⟨⟨_, _, _, rfl, rfl, rfl, rfl⟩, rfl⟩⟩, .inr ⟨_, rfl, rfl, .inr ⟨⟨_, _, _, rfl, rfl, rfl, rfl⟩, rfl⟩⟩, .inr ⟨_, rfl, rfl, .inr ⟨⟨_, _, _, rfl, rfl, rfl, rfl⟩, rfl⟩⟩, .inr ⟨_, rfl, rfl, .inr ⟨⟨_, _, _, rfl, rfl, rfl, rfl⟩, rfl⟩⟩, .inr ⟨_, rfl, rfl, .inr ⟨⟨_, _, _, rfl, rfl, rfl, rfl⟩, rfl⟩⟩, .inr ⟨_, rfl, rfl, .inr ⟨⟨_, _, _, rfl, rfl, rfl, rfl⟩, rfl⟩⟩, .inr ⟨_, rfl, rfl, .inl ⟨rfl, Do.pickT rfl rfl⟩⟩, .inr ⟨_, rfl, rfl, .inl ⟨rfl, Do.move rfl⟩⟩, .inr ⟨_, rfl, rfl, .inr ⟨⟨_, _, _, rfl, rfl, rfl, rfl⟩, rfl⟩⟩, .inr ⟨_, rfl, rfl, .inr ⟨⟨_, _, _, rfl, rfl, rfl, rfl⟩, rfl⟩⟩, .inr ⟨_, rfl, rfl, .inr ⟨⟨_, _, _, rfl, rfl, rfl, rfl⟩, rfl⟩⟩, .inr ⟨_, rfl, rfl, .inr ⟨⟨_, _, _, rfl, rfl, rfl, rfl⟩, rfl⟩⟩, .inr ⟨_, rfl, rfl, .inr ⟨⟨_, _, _, rfl, rfl, rfl, rfl⟩, rfl⟩⟩, .inr ⟨_, rfl, rfl, .inr ⟨⟨_, _, _, rfl, rfl, rfl, rfl⟩, rfl⟩⟩, .inr ⟨_, rfl, rfl, .inr ⟨⟨_, _, _, rfl, rfl, rfl, rfl⟩, rfl⟩⟩, .inr ⟨_, rfl, rfl, .inr ⟨⟨_, _, _, rfl, rfl, rfl, rfl⟩, rfl⟩⟩, .inr ⟨_, rfl, rfl, .inr ⟨⟨_, _, _, rfl, rfl, rfl, rfl⟩, rfl⟩⟩, .inr ⟨_, rfl, rfl, .inr ⟨⟨_, _, _, rfl, rfl, rfl, rfl⟩, rfl⟩⟩, .inr ⟨_, rfl, rfl, .inr ⟨⟨_, _, _, rfl, rfl, rfl, rfl⟩, rfl⟩⟩, .inr ⟨_, rfl, rfl, .inr ⟨⟨_, _, _, rfl, rfl, rfl, rfl⟩, rfl⟩⟩, .inr ⟨_, rfl, rfl, .inl ⟨rfl, Do.pickT rfl rfl⟩⟩, trivial⟩, by kernel_rfl, ?_⟩
        refine At.mono (E' := [(0, .slice A l.length C), (1, .slice A2 m.length C2), (5, .int .i64 (i : Int)), (68, .bool true)]) ⟨rfl, rfl, rfl, rfl, trivial⟩ ?_
        refine At.condT rfl ?_
        refine At.seq ?_
        refine At.region ?_
        refine AtL.assign (.inl rfl) rfl rfl ?_
        refine AtL.done ?_
        exact At.ret Tryz.func27 rfl rfl (⟨congrArg Value.bool (decide_eq_false (map_ne_at hil him fun h9 => e1 (congrArg ItV.st h9))).symm, rfl⟩)
    · intro hc2
      have hc2 : ¬ ((i : Int) < (l.length : Int)) := of_decide_eq_false hc2
      refine At.exit rfl ?_
      refine At.seq ?_
      refine At.region ?_
      refine AtL.assign (.inl rfl) rfl rfl ?_
      refine AtL.done ?_
      exact At.ret Tryz.func27 rfl rfl (⟨congrArg Value.bool (decide_eq_true (map_eq_of (by omega) fun j hj => hp j (by omega))).symm, rfl⟩)
end Go.Proofs.YtlkdmbpbjhjkfaaGreatDoor
namespace Go.Proofs.YtlkdmbpbjhjkfaaGreatDoor
set_option linter.unusedVariables false
set_option linter.unusedSimpArgs false
set_option maxRecDepth 100000
theorem flat_take_le (ps : List (List UInt8)) (i : Nat) : (ps.take i).flatten.length ≤ ps.flatten.length := by
  have h1 : ps.flatten = (ps.take i).flatten ++ (ps.drop i).flatten := by rw [← List.flatten_append, List.take_append_drop]
  rw [h1, List.length_append]; omega
theorem flat_getD_le (ps : List (List UInt8)) (i : Nat) : (ps.getD i []).length ≤ ps.flatten.length := by
  by_cases h : i < ps.length
  · have h1 : ps = ps.take i ++ ps.getD i [] :: ps.drop (i + 1) := by
      have : ps.getD i [] = ps[i] := by simp [List.getD, h]
      rw [this, ← List.drop_eq_getElem_cons h, List.take_append_drop]
    have h2 : ps.flatten.length = (ps.take i).flatten.length + ((ps.getD i []).length + (ps.drop (i + 1)).flatten.length) := by
      conv => lhs; rw [h1]
      simp
    omega
  · simp [List.getD, h]
theorem run_len (b : List UInt8) : (runF b).2.1.length ≤ b.length ∧ (runF b).1.length ≤ b.length + 1 := by
  induction h : b.length using Nat.strongRecOn generalizing b with
  | _ n ih =>
    cases hh : headF14 b with
    | wait => rw [run_wait hh]; simp; omega
    | ends s => rw [run_ends hh]; simp
    | ready hd long body k =>
      have hl := head_long hh
      by_cases hs : b.length < long + body
      · rw [run_short hh hs]; simp; omega
      · cases k with
        | false => rw [run_last hh hs]; simp
        | true =>
          have := ih (b.drop (long + body)).length (by rw [List.length_drop]; omega) _ rfl
          rw [run_more hh hs]
          rw [List.length_drop] at this
          simp only [List.length_cons]; omega
theorem push_any {w0 : World} {base : Nat} {H : List Seg} {r : Nat} {x : Sl tyB 5} {ph : Rph} {g : Nat → Value} {A : Option Addr} {C : Nat} {l b : List UInt8} (h : Rd tyB w0 base H A C l) (hr : RdOk ph x b false) (hsz : b.length + l.length ≤ 999990) (T : Tabs w0 base) :
    SCalls Tryz.prog 25 [.pointer (some ⟨r, 0, none⟩), .slice A l.length C] w0 base (ph.s :: x.s :: rdC r ph x (.slice none 0 0) g :: H) (fun v H' => ∃ (its : List It) (o : Sl tyItem 49) (ph' : Rph) (x' : Sl tyB 5) (g' : Nat → Value), o.l = its.map It.v ∧ its.map It.pl = (runF (b ++ l)).1 ∧ RdOk ph' x' (runF (b ++ l)).2.1 (runF (b ++ l)).2.2 ∧ v = .tuple #[.slice o.A o.l.length o.C, int 0] ∧ H' = itS its :: o.s :: ph'.s :: x'.s :: rdC r ph' x' (.slice none 0 0) g' :: H) := by
  have hx := hr.kept rfl
  refine (rdpush_ok h hr.over hr.ok (by rw [hx]; exact hsz) T).mono ?_
  rintro v H1 ⟨its, o, ph', x', g', ho, hp, hok, hov, hkp, rfl, rfl⟩
  rw [hx] at hp hov hkp
  exact ⟨its, o, ph', x', g', ho, hp, ⟨hok, hov, fun h => hkp (hov.trans h)⟩, rfl, rfl⟩
theorem flat_snoc14 {l : List Bs} {i : Nat} (h : i < l.length) : ((l.map (·.l)).take (i + 1)).flatten = ((l.map (·.l)).take i).flatten ++ (l.getD i ⟨none, 0, []⟩).l := by
  rw [List.take_succ_eq_append_getElem (by simpa using h), List.flatten_append]
  simp [List.getD, h]
theorem run_two {P q : List UInt8} {kb : List UInt8} (h : kb = (runF P).2.1) (ho : false = (runF P).2.2) : runF (P ++ q) = ((runF P).1 ++ (runF (kb ++ q)).1, (runF (kb ++ q)).2) := by
  rw [run_app P.length P q (Nat.le_refl _), ← ho, if_neg (by simp), h]
theorem run_done {P q : List UInt8} (ho : true = (runF P).2.2) : runF (P ++ q) = runF P := by
  rw [run_app P.length P q (Nat.le_refl _), ← ho, if_pos rfl]
end Go.Proofs.YtlkdmbpbjhjkfaaGreatDoor
