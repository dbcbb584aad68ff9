/- Heads: fields. -/
import Derived.Test.YtlkdmbpbjhjkfaaDoorH2
namespace Go.Proofs.YtlkdmbpbjhjkfaaDoor
set_option linter.unusedVariables false
set_option linter.unusedSimpArgs false
set_option maxRecDepth 100000

theorem allF_snoc (fs : List Fld) (k : Nat) (h : k < fs.length) (nm : List UInt8) : allF (fs.take (k + 1)) nm = allF (fs.take k) nm ++ (if lowerF (fs.getD k ([], [])).1 = lowerF nm then [(fs.getD k ([], [])).2] else []) := by
  have h1 : fs.take (k + 1) = fs.take k ++ [fs.getD k ([], [])] := by rw [List.take_succ_eq_append_getElem h]; simp [List.getD, h]
  rw [h1, allF, allF, List.filter_append, List.map_append]
  congr 1
  by_cases h2 : lowerF (fs.getD k ([], [])).1 = lowerF nm
  · rw [if_pos h2]; simp only [List.filter_cons, h2, decide_true, if_true, List.filter_nil, List.map_cons, List.map_nil]
  · rw [if_neg h2]; simp only [List.filter_cons, h2, decide_false, Bool.false_eq_true, if_false, List.filter_nil, List.map_nil]
theorem headD_getD (l : List (List UInt8)) : l.headD [] = l.getD 0 [] := by cases l <;> rfl
theorem allF_len (fs : List Fld) (nm : List UInt8) : (allF fs nm).length ≤ fs.length := by
  simp only [allF, List.length_map]
  exact List.length_filter_le _ _
theorem allF_mem {fs : List Fld} {nm v : List UInt8} (h : v ∈ allF fs nm) : ∃ f ∈ fs, f.2 = v := by
  simp only [allF, List.mem_map, List.mem_filter] at h
  obtain ⟨f, ⟨h1, _⟩, h2⟩ := h
  exact ⟨f, h1, h2⟩

set_option maxHeartbeats 400000 in
theorem all_ok {w0 : World} {base : Nat} {H : List Seg} {m t : List UInt8} {minor : Int} {A : Option Addr} {C : Nat} {fs : List (List UInt8 × List UInt8)} (h : Rd tyField w0 base H A C fs) {nm : List UInt8} (hnm : nm.length ≤ 140737488355000) (hfl : fs.length ≤ 1000) (hb : ∀ f ∈ fs, f.1.length ≤ 140737488355000 ∧ f.2.length ≤ 140737488355000) :
    SCalls Tryd.prog 35 [.agg #[str m, str t, .int .i64 minor, .slice A fs.length C], str nm] w0 base (H) (fun v H' => ∃ x : Sl tyS 9, x.l = allF fs nm ∧ v = .slice x.A x.l.length x.C ∧ H' = x.s :: H) := by
  have hle0 := h.le
  have hcap0 := h.cap
  refine SCalls.of_walk (n := 28) Tryd.func35 rfl rfl rfl fun cs => ?_
  refine At.seq ?_
  refine At.region ?_
  refine AtL.box (cs := #[str m, str t, .int .i64 minor, .slice A fs.length C]) rfl (.inl rfl) rfl rfl ?_
  intro b1
  refine AtL.assign (.inl rfl) rfl rfl ?_
  refine AtL.done ?_
  refine At.seq ?_
  refine At.region ?_
  refine AtL.assign (.inl rfl) rfl rfl ?_
  refine AtL.done ?_
  refine At.seq ?_
  refine At.seq ?_
  refine At.region ?_
  refine AtL.fieldAddrB tf_fo32_3 (.inl rfl) rfl rfl rfl ?_
  refine AtL.load tf_flat30 (.inl rfl) rfl rfl (Cell.own 0 0 rfl rfl rfl) ?_
  refine AtL.lenL Tryd.underlying30 (.inl rfl) rfl rfl ?_
  refine AtL.move (.inl rfl) rfl rfl ?_
  refine AtL.done ?_
  refine At.block ?_
  refine At.nil ?_
  refine At.pick (H' := [] :: H) [0] 2 rfl rfl ?_
  refine At.loop2 (fun (k : Nat) (x : Sl tyS 9) => [(1, str nm), (5, .slice x.A x.l.length x.C), (9, .slice A fs.length C), (10, .int .i64 (fs.length : Int)), (11, .int .i64 (k : Int))]) (fun (k : Nat) (x : Sl tyS 9) => x.s :: H) (fun (k : Nat) (x : Sl tyS 9) => k ≤ fs.length ∧ x.l = allF (fs.take k) nm) (fun (k : Nat) (x : Sl tyS 9) => fs.length - k) 0 Sl.nil (⟨Nat.zero_le _, rfl⟩) ⟨rfl, rfl, rfl, rfl, rfl, trivial⟩ rfl ?_
  rintro k x ⟨hk, hx⟩ ihL1
  have hcap := Own.cap_le x.own
  have hle := Own.le_cap x.own
  have hxl := allF_len (fs.take k) nm
  rw [← hx, List.length_take] at hxl
  refine At.seq ?_
  refine At.region ?_
  refine AtL.lss (.inl rfl) rfl rfl rfl ?_
  refine AtL.done ?_
  refine At.seq ?_
  refine At.cond rfl ?_ ?_
  · intro hc1
    have hc1 : (k : Int) < (fs.length : Int) := of_decide_eq_true hc1
    have hbk := hb _ (getD_mem (l := fs) (i := k) (d := (([], []) : List UInt8 × List UInt8)) (by omega))
    refine At.skip ?_
    refine At.seq ?_
    refine At.block ?_
    refine At.seq ?_
    refine At.region ?_
    refine AtL.indexL k (Rd.skip 1 h) Tryd.underlying30 tf_sz51 (.inl rfl) rfl rfl rfl rfl (by omega) ?_
    refine AtL.loadE (n := 0) (Rd.skip 1 h) (getD_some (([], []) : List UInt8 × List UInt8) (by omega)) rfl tf_agg51 (.inl rfl) rfl rfl ?_
    refine AtL.alloc tf_zero51 (cs := #[str [], str []]) rfl (.inl rfl) rfl ?_
    intro b2
    refine AtL.store (H' := [(b2, .cells #[str ((fs.getD k (([], []) : List UInt8 × List UInt8)).1), str ((fs.getD k (([], []) : List UInt8 × List UInt8)).2)] 51 (0, 0))] :: x.s :: H) 0 0 tf_sz51 (.inl rfl) rfl rfl rfl rfl rfl rfl rfl rfl rfl ?_
    refine AtL.done ?_
    refine At.seq ?_
    refine At.region ?_
    refine AtL.fieldAddrB tf_fo51_0 (.inl rfl) rfl rfl rfl ?_
    refine AtL.load tf_flat9 (.inl rfl) rfl rfl (Cell.own 0 0 rfl rfl rfl) ?_
    refine AtL.call tf_body43 (.inl rfl) rfl rfl (lower_ok (l := (fs.getD k (([], []) : List UInt8 × List UInt8)).1) (by first | omega | (simp only [List.length_append, List.length_cons, List.length_nil]; omega) | (simp; done) | (simp; omega))) ?_
    rintro _ _ ⟨rfl, rfl⟩
    refine AtL.move (.inl rfl) rfl rfl ?_
    refine AtL.call tf_body43 (.inl rfl) rfl rfl (lower_ok (l := nm) (by first | omega | (simp only [List.length_append, List.length_cons, List.length_nil]; omega) | (simp; done) | (simp; omega))) ?_
    rintro _ _ ⟨rfl, rfl⟩
    refine AtL.eqs (a := lowerF ((fs.getD k (([], []) : List UInt8 × List UInt8)).1)) (b := lowerF nm) (.inl rfl) rfl rfl rfl ?_
    refine AtL.done ?_
    refine At.cond rfl ?_ ?_
    · intro hc2
      have hc2 : lowerF ((fs.getD k (([], []) : List UInt8 × List UInt8)).1) = lowerF nm := of_decide_eq_true hc2
      refine At.region ?_
      refine AtL.move (.inl rfl) rfl rfl ?_
      refine AtL.fieldAddrB tf_fo51_1 (.inl rfl) rfl rfl rfl ?_
      refine AtL.load tf_flat9 (.inl rfl) rfl rfl (Cell.own 0 0 rfl rfl rfl) ?_
      refine AtL.buildSlice (cs := [str ((fs.getD k (([], []) : List UInt8 × List UInt8)).2)]) Tryd.underlying23 tf_zero9 tf_sz9 rfl rfl (.inl rfl) rfl rfl rfl ?_
      intro b3
      refine AtL.own1 tyS (l := ([(fs.getD k (([], []) : List UInt8 × List UInt8)).2] : List (List UInt8))) rfl rfl (by first | decide | simp) ?_
      intro s4 o5
      refine AtL.append (l := x.l) (news := [(fs.getD k (([], []) : List UInt8 × List UInt8)).2]) 2 tf_el23 rfl x.own (o5.rd (i := 0) rfl) (by first | omega | (simp only [List.length_append, List.length_cons, List.length_nil]; omega) | (simp; done) | (simp; omega)) (.inl rfl) rfl rfl rfl ?_
      intro A6 C7 s8 o9
      refine AtL.assign (.inl rfl) rfl rfl ?_
      refine AtL.done ?_
      refine At.inBlock ?_
      refine At.region ?_
      refine AtL.add (z := (k : Int) + 1) (.inl rfl) rfl rfl rfl (w64 (by omega) (by omega)) ?_
      refine AtL.move (.inl rfl) rfl rfl ?_
      refine AtL.done ?_
      refine At.pick (H' := s8 :: H) [2] 3 rfl rfl ?_
      refine ihL1 (k + 1) (⟨A6, C7, x.l ++ ([(fs.getD k (([], []) : List UInt8 × List UInt8)).2]), s8, o9⟩) (⟨by omega, by rw [allF_snoc _ _ (by omega), if_pos hc2, ← hx]⟩) (by omega) _ ?_
      exact ⟨rfl, (by first | rfl | exact slLen (by simp []) | exact intEq (by omega) | exact intEq (by simp []) | exact slLen (by simp []; omega)), rfl, rfl, (by first | rfl | exact slLen (by simp []) | exact intEq (by omega) | exact intEq (by simp []) | exact slLen (by simp []; omega)), trivial⟩
    · intro hc2
      have hc2 : ¬ (lowerF ((fs.getD k (([], []) : List UInt8 × List UInt8)).1) = lowerF nm) := of_decide_eq_false hc2
      refine At.skip ?_
      refine At.inBlock ?_
      refine At.region ?_
      refine AtL.add (z := (k : Int) + 1) (.inl rfl) rfl rfl rfl (w64 (by omega) (by omega)) ?_
      refine AtL.move (.inl rfl) rfl rfl ?_
      refine AtL.done ?_
      refine At.pick (H' := x.s :: H) [1] 2 rfl rfl ?_
      refine ihL1 (k + 1) x (⟨by omega, by rw [allF_snoc _ _ (by omega), if_neg hc2, List.append_nil, ← hx]⟩) (by omega) _ ?_
      exact ⟨rfl, (by first | rfl | exact slLen (by simp []) | exact intEq (by omega) | exact intEq (by simp []) | exact slLen (by simp []; omega)), rfl, rfl, (by first | rfl | exact slLen (by simp []) | exact intEq (by omega) | exact intEq (by simp []) | exact slLen (by simp []; omega)), trivial⟩
  · intro hc1
    have hc1 : ¬ ((k : Int) < (fs.length : Int)) := of_decide_eq_false hc1
    refine At.exit rfl ?_
    refine At.seq ?_
    refine At.region ?_
    refine AtL.move (.inl rfl) rfl rfl ?_
    refine AtL.assign (.inl rfl) rfl rfl ?_
    refine AtL.done ?_
    exact At.ret Tryd.func35 rfl rfl (⟨x, by rw [List.take_of_length_le (show fs.length ≤ k by omega)] at hx; exact hx, rfl, rfl⟩)

set_option maxHeartbeats 400000 in
theorem field_ok {w0 : World} {base : Nat} {H : List Seg} {m t : List UInt8} {minor : Int} {A : Option Addr} {C : Nat} {fs : List (List UInt8 × List UInt8)} (h : Rd tyField w0 base H A C fs) {nm : List UInt8} (hnm : nm.length ≤ 140737488355000) (hfl : fs.length ≤ 1000) (hb : ∀ f ∈ fs, f.1.length ≤ 140737488355000 ∧ f.2.length ≤ 140737488355000) :
    SCalls Tryd.prog 27 [.agg #[str m, str t, .int .i64 minor, .slice A fs.length C], str nm] w0 base (H) (fun v H' => v = .tuple #[str (fieldF fs nm).1, int ((fieldF fs nm).2 : Int)] ∧ H' = H) := by
  refine SCalls.of_walk (n := 18) Tryd.func27 rfl rfl rfl fun cs => ?_
  refine At.seq ?_
  refine At.region ?_
  refine AtL.box (cs := #[str m, str t, .int .i64 minor, .slice A fs.length C]) rfl (.inl rfl) rfl rfl ?_
  intro b1
  refine AtL.assign (.inl rfl) rfl rfl ?_
  refine AtL.assign (.inl rfl) rfl rfl ?_
  refine AtL.done ?_
  refine At.seq ?_
  refine At.region ?_
  refine AtL.loadN (cs := [str m, str t, .int .i64 minor, .slice A fs.length C]) tf_agg32 (.inl rfl) rfl rfl rfl (cellsOwn 0 0 0 rfl rfl rfl) ?_
  refine AtL.move (.inl rfl) rfl rfl ?_
  refine AtL.call tf_body35 (.inl rfl) rfl rfl (all_ok (fs := fs) (Rd.skip 1 h) (nm := nm) (by first | omega | decide) hfl hb) ?_
  rintro _ _ ⟨⟨A2, C3, l4, s5, o6⟩, hx7, rfl, rfl⟩
  obtain rfl : allF fs nm = l4 := hx7.symm
  refine AtL.assign (.inl rfl) rfl rfl ?_
  refine AtL.done ?_
  refine At.seq ?_
  refine At.seq ?_
  refine At.region ?_
  refine AtL.move (.inl rfl) rfl rfl ?_
  refine AtL.lenL Tryd.underlying23 (.inl rfl) rfl rfl ?_
  refine AtL.eqi (.inl rfl) rfl rfl rfl ?_
  refine AtL.done ?_
  refine At.cond rfl ?_ ?_
  · intro hc1
    have hc1 : ((allF fs nm).length : Int) = 0 := of_decide_eq_true hc1
    have hnil : allF fs nm = [] := List.eq_nil_of_length_eq_zero (by omega)
    refine At.seq ?_
    refine At.region ?_
    refine AtL.assign (.inl rfl) rfl rfl ?_
    refine AtL.assign (.inl rfl) rfl rfl ?_
    refine AtL.done ?_
    refine At.pick (H' := H) [] 2 rfl rfl ?_
    exact At.ret Tryd.func27 rfl rfl (⟨by rw [fieldF, hnil]; rfl, rfl⟩)
  · intro hc1
    have hc1 : ¬ (((allF fs nm).length : Int) = 0) := of_decide_eq_false hc1
    have hcons : 0 < (allF fs nm).length := by omega
    refine At.skip ?_
    refine At.seq ?_
    refine At.region ?_
    refine AtL.move (.inl rfl) rfl rfl ?_
    refine AtL.indexL 0 (o6.rd (i := 0) rfl) Tryd.underlying23 tf_sz9 (.inl rfl) rfl rfl rfl rfl (by omega) ?_
    refine AtL.load (v := str ((allF fs nm).getD 0 [])) tf_flat9 (.inl rfl) rfl rfl (Rd.cell0 (o6.rd (i := 0) rfl) (getD_some [] (by omega)) rfl) ?_
    refine AtL.move (.inl rfl) rfl rfl ?_
    refine AtL.lenL Tryd.underlying23 (.inl rfl) rfl rfl ?_
    refine AtL.assign (.inl rfl) rfl rfl ?_
    refine AtL.assign (.inl rfl) rfl rfl ?_
    refine AtL.done ?_
    refine At.pick (H' := H) [] 2 rfl rfl ?_
    exact At.ret Tryd.func27 rfl rfl (⟨by rw [fieldF, headD_getD]; rfl, rfl⟩)

theorem ok_bad {h : HeadV} {k : Nat} (hk : k < h.fs.length) (hf : fieldOk (h.fs.getD k ([], [])) = false) : okF h = false := by
  have : h.fs.all fieldOk = false := by
    rw [List.all_eq_false]
    exact ⟨_, getD_mem hk, by rw [hf]; simp⟩
  rw [okF, this]; simp
theorem all_stepF {fs : List Fld} {k : Nat} (h : k < fs.length) (ha : (fs.take k).all fieldOk = true) (hp : fieldOk (fs.getD k ([], [])) = true) : (fs.take (k + 1)).all fieldOk = true := by
  have h1 : fs.take (k + 1) = fs.take k ++ [fs.getD k ([], [])] := by rw [List.take_succ_eq_append_getElem h]; simp [List.getD, h]
  rw [h1, List.all_append, ha]; simpa using hp

end Go.Proofs.YtlkdmbpbjhjkfaaDoor
