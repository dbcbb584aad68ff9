/- The answer beside heads: Keep. -/
import Derived.Test.YtlfkoimkojbghaaGreatDoorR3
import Derived.Test.YtlfkoimkojbghaaGreatDoorI3
namespace Go.Proofs.YtlfkoimkojbghaaGreatDoor
set_option linter.unusedVariables false
set_option linter.unusedSimpArgs false
set_option maxRecDepth 100000

theorem spF_le2 (c : UInt8) (l : List UInt8) : ∀ u ∈ spF c l, u.length ≤ l.length := by
  induction l with
  | nil => intro u hu; simp [spF] at hu; subst hu; simp
  | cons a l ih =>
    intro u hu
    rw [spF] at hu
    split at hu
    · rcases List.mem_cons.1 hu with rfl | hu
      · simp
      · have := ih u hu; simp; omega
    · cases h : spF c l with
      | nil => exact absurd h (spF_ne c l)
      | cons w ws =>
        rw [h] at hu
        rcases List.mem_cons.1 hu with rfl | hu
        · have := ih w (by rw [h]; simp); simp; omega
        · have := ih u (by rw [h]; simp [hu]); simp; omega
theorem allF_at {fs : List Fld} {nm : List UInt8} {k : Nat} (h : k < fs.length) : allF (fs.drop k) nm = if lowerF (fs.getD k (([], []) : List UInt8 × List UInt8)).1 = lowerF nm then (fs.getD k (([], []) : List UInt8 × List UInt8)).2 :: allF (fs.drop (k + 1)) nm else allF (fs.drop (k + 1)) nm := by
  rw [List.drop_eq_getElem_cons h, show fs.getD k (([], []) : List UInt8 × List UInt8) = fs[k] by simp [List.getD, h], allF, List.filter_cons]
  by_cases hc : lowerF fs[k].1 = lowerF nm
  · simp [hc, allF]
  · simp [hc, allF]
theorem rkeep_in {kp : Bool} {fs : List Fld} {k : Nat} {r : Bool} (h : goesF kp ((allF (fs.drop k) [99, 111, 110, 110, 101, 99, 116, 105, 111, 110]).flatMap wdF) = r) (hk : k < fs.length) (hc : lowerF (fs.getD k (([], []) : List UInt8 × List UInt8)).1 = lowerF [99, 111, 110, 110, 101, 99, 116, 105, 111, 110]) :
    goesF kp ((((spF 44 (fs.getD k (([], []) : List UInt8 × List UInt8)).2).drop 0).map fun x => lowerF (trimF x)) ++ (allF (fs.drop (k + 1)) [99, 111, 110, 110, 101, 99, 116, 105, 111, 110]).flatMap wdF) = r := by
  rw [allF_at hk, if_pos hc, List.flatMap_cons] at h; exact h
theorem rkeep_out {kp : Bool} {fs : List Fld} {k : Nat} {r : Bool} (h : goesF kp ((allF (fs.drop k) [99, 111, 110, 110, 101, 99, 116, 105, 111, 110]).flatMap wdF) = r) (hk : k < fs.length) (hc : ¬ lowerF (fs.getD k (([], []) : List UInt8 × List UInt8)).1 = lowerF [99, 111, 110, 110, 101, 99, 116, 105, 111, 110]) : goesF kp ((allF (fs.drop (k + 1)) [99, 111, 110, 110, 101, 99, 116, 105, 111, 110]).flatMap wdF) = r := by
  rw [allF_at hk, if_neg hc] at h; exact h
theorem rkeep_close {kq : Bool} {ws rest : List (List UInt8)} {j : Nat} {r : Bool} (h : goesF kq (((ws.drop j).map fun x => lowerF (trimF x)) ++ rest) = r) (hj : j < ws.length) (hc : lowerF (trimF (ws.getD j [])) = lowerF [99, 108, 111, 115, 101]) : r = false := by
  rw [List.drop_eq_getElem_cons hj, show ws[j] = ws.getD j [] by simp [List.getD, hj], List.map_cons, List.cons_append, goesF, if_pos (by rw [hc]; rfl)] at h
  exact h.symm
theorem rkeep_next {kq : Bool} {ws rest : List (List UInt8)} {j : Nat} {r : Bool} (h : goesF kq (((ws.drop j).map fun x => lowerF (trimF x)) ++ rest) = r) (hj : j < ws.length) (hc : ¬ lowerF (trimF (ws.getD j [])) = lowerF [99, 108, 111, 115, 101]) :
    (lowerF (trimF (ws.getD j [])) = lowerF [107, 101, 101, 112, 45, 97, 108, 105, 118, 101] → goesF true (((ws.drop (j + 1)).map fun x => lowerF (trimF x)) ++ rest) = r) ∧ (¬ lowerF (trimF (ws.getD j [])) = lowerF [107, 101, 101, 112, 45, 97, 108, 105, 118, 101] → goesF kq (((ws.drop (j + 1)).map fun x => lowerF (trimF x)) ++ rest) = r) := by
  rw [List.drop_eq_getElem_cons hj, show ws[j] = ws.getD j [] by simp [List.getD, hj], List.map_cons, List.cons_append, goesF, if_neg (by exact hc)] at h
  refine ⟨fun ha => ?_, fun ha => ?_⟩
  · rw [show decide (lowerF (trimF (ws.getD j [])) = ALIVE) = true from decide_eq_true ha, Bool.or_true] at h; exact h
  · rw [show decide (lowerF (trimF (ws.getD j [])) = ALIVE) = false from decide_eq_false ha, Bool.or_false] at h; exact h
theorem rkeep_done {kq : Bool} {ws rest : List (List UInt8)} {j : Nat} {r : Bool} (h : goesF kq (((ws.drop j).map fun x => lowerF (trimF x)) ++ rest) = r) (hj : ws.length ≤ j) : goesF kq rest = r := by
  rw [List.drop_eq_nil_of_le hj] at h; exact h
theorem rkeep_end {kp : Bool} {fs : List Fld} {k : Nat} {r : Bool} (h : goesF kp ((allF (fs.drop k) [99, 111, 110, 110, 101, 99, 116, 105, 111, 110]).flatMap wdF) = r) (hk : fs.length ≤ k) : kp = r := by
  rw [List.drop_eq_nil_of_le hk] at h; exact h

set_option maxHeartbeats 1000000 in
theorem rkeep_ok {w0 : World} {base : Nat} {H : List Seg} {m t : List UInt8} {minor : Int} {A : Option Addr} {C : Nat} {fs : List (List UInt8 × List UInt8)} (h : Rd tyField w0 base H A C fs) (hfl : fs.length ≤ 1000) (hb : ∀ f ∈ fs, f.1.length ≤ 140737488355000 ∧ f.2.length ≤ 140737488355000) (hb4 : ∀ f ∈ fs, f.2.length < 4294967281) :
    SCalls Tryz.prog 55 [.agg #[str m, str t, .int .i64 minor, .slice A fs.length C]] w0 base (H) (fun v H' => v = .bool (keepF fs minor) ∧ H' = H) := by
  have hle0 := h.le
  have hcap0 := h.cap
  refine SCalls.of_walk (n := 51) Tryz.func55 rfl rfl rfl fun cs => ?_
  refine At.seq ?_
  refine At.region ?_
  refine AtL.box (cs := #[str m, str t, .int .i64 minor, .slice A fs.length C]) rfl (.inl rfl) rfl rfl ?_
  intro b1
  refine AtL.assign (.inl rfl) rfl rfl ?_
  refine AtL.done ?_
  refine At.seq ?_
  refine At.region ?_
  refine AtL.fieldAddrB tf_fo35_2 (.inl rfl) rfl rfl rfl ?_
  refine AtL.load tf_flat3 (.inl rfl) rfl rfl (Cell.own 0 0 rfl rfl rfl) ?_
  refine AtL.eqi (.inl rfl) rfl rfl rfl ?_
  refine AtL.assign (.inl rfl) rfl rfl ?_
  refine AtL.done ?_
  refine At.seq ?_
  refine At.seq ?_
  refine At.region ?_
  refine AtL.assign (.inl rfl) rfl rfl ?_
  refine AtL.done ?_
  refine At.block ?_
  refine At.nil ?_
  refine At.pick (H' := [(b1, .cells #[str m, str t, .int .i64 minor, .slice A fs.length C] 35 (0, 0))] :: [] :: H) [1, 0] 2 rfl rfl ?_
  refine At.loop3 (fun (k : Nat) (kp : Bool) (sg : Seg) => [(1, .pointer (some ⟨b1, 0, none⟩)), (3, .bool kp), (4, .int .i64 (k : Int))]) (fun (k : Nat) (kp : Bool) (sg : Seg) => [(b1, .cells #[str m, str t, .int .i64 minor, .slice A fs.length C] 35 (0, 0))] :: sg :: H) (fun (k : Nat) (kp : Bool) (sg : Seg) => k ≤ fs.length ∧ goesF kp ((allF (fs.drop k) [99, 111, 110, 110, 101, 99, 116, 105, 111, 110]).flatMap wdF) = keepF fs minor) (fun (k : Nat) (kp : Bool) (sg : Seg) => fs.length - k) 0 (decide ((minor : Int) = 1)) [] (⟨Nat.zero_le _, rfl⟩) ⟨rfl, rfl, rfl, trivial⟩ rfl ?_
  rintro k kp sg ⟨hk, hg⟩ ihL1
  refine At.seq ?_
  refine At.seq ?_
  refine At.region ?_
  refine AtL.move (.inl rfl) rfl rfl ?_
  refine AtL.fieldAddrB tf_fo35_3 (.inl rfl) rfl rfl rfl ?_
  refine AtL.load tf_flat33 (.inl rfl) rfl rfl (Cell.own 0 0 rfl rfl rfl) ?_
  refine AtL.lenL Tryz.underlying33 (.inl rfl) rfl rfl ?_
  refine AtL.lss (.inl rfl) rfl rfl rfl ?_
  refine AtL.done ?_
  refine At.cond rfl ?_ ?_
  · intro hc1
    have hc1 : (k : Int) < (fs.length : Int) := of_decide_eq_true hc1
    have hbk := hb _ (getD_mem (l := fs) (i := k) (d := (([], []) : List UInt8 × List UInt8)) (by omega))
    refine At.skip ?_
    refine At.seq ?_
    refine At.block ?_
    refine At.seq ?_
    refine At.seq ?_
    refine At.region ?_
    refine AtL.fieldAddrB tf_fo35_3 (.inl rfl) rfl rfl rfl ?_
    refine AtL.load tf_flat33 (.inl rfl) rfl rfl (Cell.own 0 0 rfl rfl rfl) ?_
    refine AtL.move (.inl rfl) rfl rfl ?_
    refine AtL.indexL k (Rd.skip 2 h) Tryz.underlying33 tf_sz52 (.inl rfl) rfl rfl rfl rfl (by omega) ?_
    refine AtL.fieldAddr tf_fo52_0 (.inl rfl) rfl rfl ?_
    refine AtL.load (v := str ((fs.getD k (([], []) : List UInt8 × List UInt8)).1)) tf_flat9 (.inl rfl) rfl rfl (Rd.cell_at (Rd.skip 2 h) (j := 0) (getD_some (([], []) : List UInt8 × List UInt8) (by omega)) rfl) ?_
    refine AtL.call tf_body101 (.inl rfl) rfl rfl (rsame_ok (a := (fs.getD k (([], []) : List UInt8 × List UInt8)).1) (b := [99, 111, 110, 110, 101, 99, 116, 105, 111, 110]) (by omega) (by decide)) ?_
    rintro _ _ ⟨rfl, rfl⟩
    refine AtL.not (.inl rfl) rfl rfl ?_
    refine AtL.done ?_
    refine At.cond rfl ?_ ?_
    · intro hc2
      have hc2 : ¬ (lowerF ((fs.getD k (([], []) : List UInt8 × List UInt8)).1) = lowerF [99, 111, 110, 110, 101, 99, 116, 105, 111, 110]) := of_decide_eq_false (bnot_true hc2)
      refine At.exit rfl ?_
      refine At.region ?_
      refine AtL.move (.inl rfl) rfl rfl ?_
      refine AtL.add (z := (k : Int) + 1) (.inl rfl) rfl rfl rfl (w64 (by omega) (by omega)) ?_
      refine AtL.assign (.inl rfl) rfl rfl ?_
      refine AtL.done ?_
      refine ihL1 (k + 1) kp sg (⟨by omega, rkeep_out hg (by omega) hc2⟩) (by omega) _ ?_
      exact ⟨rfl, (by first | rfl | exact slLen (by simp []) | exact intEq (by omega) | exact intEq (by simp []) | exact slLen (by simp []; omega)), (by first | rfl | exact slLen (by simp []) | exact intEq (by omega) | exact intEq (by simp []) | exact slLen (by simp []; omega)), trivial⟩
    · intro hc2
      have hc2 : lowerF ((fs.getD k (([], []) : List UInt8 × List UInt8)).1) = lowerF [99, 111, 110, 110, 101, 99, 116, 105, 111, 110] := of_decide_eq_true (bnot_false hc2)
      have h4k := hb4 _ (getD_mem (l := fs) (i := k) (d := (([], []) : List UInt8 × List UInt8)) (by omega))
      refine At.skip ?_
      refine At.seq ?_
      refine At.region ?_
      refine AtL.fieldAddrB tf_fo35_3 (.inl rfl) rfl rfl rfl ?_
      refine AtL.load tf_flat33 (.inl rfl) rfl rfl (Cell.own 0 0 rfl rfl rfl) ?_
      refine AtL.move (.inl rfl) rfl rfl ?_
      refine AtL.indexL k (Rd.skip 2 h) Tryz.underlying33 tf_sz52 (.inl rfl) rfl rfl rfl rfl (by omega) ?_
      refine AtL.fieldAddr tf_fo52_1 (.inl rfl) rfl rfl ?_
      refine AtL.load (v := str ((fs.getD k (([], []) : List UInt8 × List UInt8)).2)) tf_flat9 (.inl rfl) rfl rfl (Rd.cell_at (Rd.skip 2 h) (j := 1) (getD_some (([], []) : List UInt8 × List UInt8) (by omega)) rfl) ?_
      refine AtL.call tf_body105 (.inl rfl) rfl rfl (rsplit_44 (s := (fs.getD k (([], []) : List UInt8 × List UInt8)).2) (by omega)) ?_
      rintro _ _ ⟨⟨A2, C3, l4, s5, o6⟩, hx7, rfl, rfl⟩
      obtain rfl : spF 44 ((fs.getD k (([], []) : List UInt8 × List UInt8)).2) = l4 := hx7.symm
      refine AtL.assign (.inl rfl) rfl rfl ?_
      refine AtL.done ?_
      refine At.seq ?_
      refine At.region ?_
      refine AtL.assign (.inl rfl) rfl rfl ?_
      refine AtL.done ?_
      refine At.block ?_
      have hwl := spF_le2 44 (fs.getD k (([], []) : List UInt8 × List UInt8)).2
      have hcapw := Own.cap_le o6
      have hlew := Own.le_cap o6
      refine At.loop2 (fun (j : Nat) (kq : Bool) => [(1, .pointer (some ⟨b1, 0, none⟩)), (3, .bool kq), (4, .int .i64 (k : Int)), (5, .slice A2 (spF 44 ((fs.getD k (([], []) : List UInt8 × List UInt8)).2)).length C3), (6, .int .i64 (j : Int))]) (fun (j : Nat) (kq : Bool) => s5 :: [(b1, .cells #[str m, str t, .int .i64 minor, .slice A fs.length C] 35 (0, 0))] :: sg :: H) (fun (j : Nat) (kq : Bool) => j ≤ (spF 44 ((fs.getD k (([], []) : List UInt8 × List UInt8)).2)).length ∧ goesF kq ((((spF 44 ((fs.getD k (([], []) : List UInt8 × List UInt8)).2)).drop j).map fun x => lowerF (trimF x)) ++ ((allF (fs.drop (k + 1)) [99, 111, 110, 110, 101, 99, 116, 105, 111, 110]).flatMap wdF)) = keepF fs minor) (fun (j : Nat) (kq : Bool) => (spF 44 ((fs.getD k (([], []) : List UInt8 × List UInt8)).2)).length - j) 0 kp (⟨Nat.zero_le _, rkeep_in hg (by omega) hc2⟩) ⟨rfl, rfl, rfl, rfl, rfl, trivial⟩ rfl ?_
      rintro j kq ⟨hj, hq⟩ ihL2
      refine At.seq ?_
      refine At.seq ?_
      refine At.region ?_
      refine AtL.move (.inl rfl) rfl rfl ?_
      refine AtL.move (.inl rfl) rfl rfl ?_
      refine AtL.lenL Tryz.underlying132 (.inl rfl) rfl rfl ?_
      refine AtL.lss (.inl rfl) rfl rfl rfl ?_
      refine AtL.done ?_
      refine At.cond rfl ?_ ?_
      · intro hc3
        have hc3 : (j : Int) < ((spF 44 ((fs.getD k (([], []) : List UInt8 × List UInt8)).2)).length : Int) := of_decide_eq_true hc3
        have hwj := hwl _ (getD_mem (l := spF 44 ((fs.getD k (([], []) : List UInt8 × List UInt8)).2)) (i := j) (d := ([] : List UInt8)) (by omega))
        have htj := trimF_le ((spF 44 ((fs.getD k (([], []) : List UInt8 × List UInt8)).2)).getD j [])
        refine At.skip ?_
        refine At.seq ?_
        refine At.block ?_
        refine At.seq ?_
        refine At.seq ?_
        refine At.region ?_
        refine AtL.move (.inl rfl) rfl rfl ?_
        refine AtL.move (.inl rfl) rfl rfl ?_
        refine AtL.indexL j (o6.rd (i := 0) rfl) Tryz.underlying132 tf_sz9 (.inl rfl) rfl rfl rfl rfl (by omega) ?_
        refine AtL.load (v := str ((spF 44 ((fs.getD k (([], []) : List UInt8 × List UInt8)).2)).getD j [])) tf_flat9 (.inl rfl) rfl rfl (Rd.cell0 (o6.rd (i := 0) rfl) (getD_some [] (by omega)) rfl) ?_
        refine AtL.call tf_body106 (.inl rfl) rfl rfl (rtrim_ok (l := ((spF 44 ((fs.getD k (([], []) : List UInt8 × List UInt8)).2)).getD j [])) (by first | omega | (simp only [List.length_append, List.length_cons, List.length_nil]; omega) | (simp; done) | (simp; omega))) ?_
        rintro _ _ ⟨rfl, rfl⟩
        refine AtL.call tf_body101 (.inl rfl) rfl rfl (rsame_ok (a := trimF ((spF 44 ((fs.getD k (([], []) : List UInt8 × List UInt8)).2)).getD j [])) (b := [99, 108, 111, 115, 101]) (by omega) (by decide)) ?_
        rintro _ _ ⟨rfl, rfl⟩
        refine AtL.done ?_
        refine At.cond rfl ?_ ?_
        · intro hc4
          have hc4 : lowerF (trimF ((spF 44 ((fs.getD k (([], []) : List UInt8 × List UInt8)).2)).getD j [])) = lowerF [99, 108, 111, 115, 101] := of_decide_eq_true hc4
          refine At.seq ?_
          refine At.region ?_
          refine AtL.assign (.inl rfl) rfl rfl ?_
          refine AtL.done ?_
          refine At.pick (H' := H) [] 3 rfl rfl ?_
          exact At.ret Tryz.func55 rfl rfl (⟨congrArg Value.bool (rkeep_close hq (by omega) hc4).symm, rfl⟩)
        · intro hc4
          have hc4 : ¬ (lowerF (trimF ((spF 44 ((fs.getD k (([], []) : List UInt8 × List UInt8)).2)).getD j [])) = lowerF [99, 108, 111, 115, 101]) := of_decide_eq_false hc4
          refine At.skip ?_
          refine At.seq ?_
          refine At.region ?_
          refine AtL.move (.inl rfl) rfl rfl ?_
          refine AtL.move (.inl rfl) rfl rfl ?_
          refine AtL.indexL j (o6.rd (i := 0) rfl) Tryz.underlying132 tf_sz9 (.inl rfl) rfl rfl rfl rfl (by omega) ?_
          refine AtL.load (v := str ((spF 44 ((fs.getD k (([], []) : List UInt8 × List UInt8)).2)).getD j [])) tf_flat9 (.inl rfl) rfl rfl (Rd.cell0 (o6.rd (i := 0) rfl) (getD_some [] (by omega)) rfl) ?_
          refine AtL.call tf_body106 (.inl rfl) rfl rfl (rtrim_ok (l := ((spF 44 ((fs.getD k (([], []) : List UInt8 × List UInt8)).2)).getD j [])) (by first | omega | (simp only [List.length_append, List.length_cons, List.length_nil]; omega) | (simp; done) | (simp; omega))) ?_
          rintro _ _ ⟨rfl, rfl⟩
          refine AtL.call tf_body101 (.inl rfl) rfl rfl (rsame_ok (a := trimF ((spF 44 ((fs.getD k (([], []) : List UInt8 × List UInt8)).2)).getD j [])) (b := [107, 101, 101, 112, 45, 97, 108, 105, 118, 101]) (by omega) (by decide)) ?_
          rintro _ _ ⟨rfl, rfl⟩
          refine AtL.done ?_
          refine At.cond rfl ?_ ?_
          · intro hc5
            have hc5 : lowerF (trimF ((spF 44 ((fs.getD k (([], []) : List UInt8 × List UInt8)).2)).getD j [])) = lowerF [107, 101, 101, 112, 45, 97, 108, 105, 118, 101] := of_decide_eq_true hc5
            refine At.region ?_
            refine AtL.assign (.inl rfl) rfl rfl ?_
            refine AtL.done ?_
            refine At.inBlock ?_
            refine At.region ?_
            refine AtL.move (.inl rfl) rfl rfl ?_
            refine AtL.add (z := (j : Int) + 1) (.inl rfl) rfl rfl rfl (w64 (by omega) (by omega)) ?_
            refine AtL.assign (.inl rfl) rfl rfl ?_
            refine AtL.done ?_
            refine ihL2 (j + 1) true (⟨by omega, (rkeep_next hq (by omega) hc4).1 hc5⟩) (by omega) _ ?_
            exact ⟨rfl, (by first | rfl | exact slLen (by simp []) | exact intEq (by omega) | exact intEq (by simp []) | exact slLen (by simp []; omega)), rfl, rfl, (by first | rfl | exact slLen (by simp []) | exact intEq (by omega) | exact intEq (by simp []) | exact slLen (by simp []; omega)), trivial⟩
          · intro hc5
            have hc5 : ¬ (lowerF (trimF ((spF 44 ((fs.getD k (([], []) : List UInt8 × List UInt8)).2)).getD j [])) = lowerF [107, 101, 101, 112, 45, 97, 108, 105, 118, 101]) := of_decide_eq_false hc5
            refine At.skip ?_
            refine At.inBlock ?_
            refine At.region ?_
            refine AtL.move (.inl rfl) rfl rfl ?_
            refine AtL.add (z := (j : Int) + 1) (.inl rfl) rfl rfl rfl (w64 (by omega) (by omega)) ?_
            refine AtL.assign (.inl rfl) rfl rfl ?_
            refine AtL.done ?_
            refine ihL2 (j + 1) kq (⟨by omega, (rkeep_next hq (by omega) hc4).2 hc5⟩) (by omega) _ ?_
            exact ⟨rfl, (by first | rfl | exact slLen (by simp []) | exact intEq (by omega) | exact intEq (by simp []) | exact slLen (by simp []; omega)), rfl, rfl, (by first | rfl | exact slLen (by simp []) | exact intEq (by omega) | exact intEq (by simp []) | exact slLen (by simp []; omega)), trivial⟩
      · intro hc3
        have hc3 : ¬ ((j : Int) < ((spF 44 ((fs.getD k (([], []) : List UInt8 × List UInt8)).2)).length : Int)) := of_decide_eq_false hc3
        refine At.exit rfl ?_
        refine At.inBlock ?_
        refine At.region ?_
        refine AtL.move (.inl rfl) rfl rfl ?_
        refine AtL.add (z := (k : Int) + 1) (.inl rfl) rfl rfl rfl (w64 (by omega) (by omega)) ?_
        refine AtL.assign (.inl rfl) rfl rfl ?_
        refine AtL.done ?_
        refine At.pick (H' := [(b1, .cells #[str m, str t, .int .i64 minor, .slice A fs.length C] 35 (0, 0))] :: s5 :: H) [1, 0] 3 rfl rfl ?_
        refine ihL1 (k + 1) kq s5 (⟨by omega, rkeep_done hq (by omega)⟩) (by omega) _ ?_
        exact ⟨rfl, (by first | rfl | exact slLen (by simp []) | exact intEq (by omega) | exact intEq (by simp []) | exact slLen (by simp []; omega)), (by first | rfl | exact slLen (by simp []) | exact intEq (by omega) | exact intEq (by simp []) | exact slLen (by simp []; omega)), trivial⟩
  · intro hc1
    have hc1 : ¬ ((k : Int) < (fs.length : Int)) := of_decide_eq_false hc1
    refine At.exit rfl ?_
    refine At.seq ?_
    refine At.region ?_
    refine AtL.move (.inl rfl) rfl rfl ?_
    refine AtL.assign (.inl rfl) rfl rfl ?_
    refine AtL.done ?_
    refine At.pick (H' := H) [] 2 rfl rfl ?_
    exact At.ret Tryz.func55 rfl rfl (⟨congrArg Value.bool (rkeep_end hg (by omega)), rfl⟩)

end Go.Proofs.YtlfkoimkojbghaaGreatDoor
