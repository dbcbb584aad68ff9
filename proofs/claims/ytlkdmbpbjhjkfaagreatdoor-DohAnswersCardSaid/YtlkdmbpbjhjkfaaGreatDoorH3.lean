/- Heads: fields. -/
import Derived.Test.YtlkdmbpbjhjkfaaGreatDoorH2
namespace Go.Proofs.YtlkdmbpbjhjkfaaGreatDoor
set_option linter.unusedVariables false
set_option linter.unusedSimpArgs false
set_option maxRecDepth 100000

theorem allF_snoc (fs : List Fld) (k : Nat) (h : k < fs.length) (nm : List UInt8) : allF (fs.take (k + 1)) nm = allF (fs.take k) nm ++ (if lowerF (fs.getD k ([], [])).1 = lowerF nm then [(fs.getD k ([], [])).2] else []) := by
  have h1 : fs.take (k + 1) = fs.take k ++ [fs.getD k ([], [])] := by rw [List.take_succ_eq_append_getElem h]; simp [List.getD, h]
  rw [h1, allF, allF, List.filter_append, List.map_append]
  congr 1
  by_cases h2 : lowerF (fs.getD k ([], [])).1 = lowerF nm
  · rw [if_pos h2]; simp only [List.filter_cons, h2, decide_true, if_true, List.filter_nil, List.map_cons, List.map_nil]
  · rw [if_neg h2]; simp only [List.filter_cons, h2, decide_false, Bool.false_eq_true, if_false, List.filter_nil, List.map_nil]
theorem headD_getD (l : List (List UInt8)) : l.headD [] = l.getD 0 [] := by cases l <;> rfl
theorem allF_len (fs : List Fld) (nm : List UInt8) : (allF fs nm).length ≤ fs.length := by
  simp only [allF, List.length_map]
  exact List.length_filter_le _ _
theorem allF_mem {fs : List Fld} {nm v : List UInt8} (h : v ∈ allF fs nm) : ∃ f ∈ fs, f.2 = v := by
  simp only [allF, List.mem_map, List.mem_filter] at h
  obtain ⟨f, ⟨h1, _⟩, h2⟩ := h
  exact ⟨f, h1, h2⟩

set_option maxHeartbeats 400000 in
theorem all_ok {w0 : World} {base : Nat} {H : List Seg} {m t : List UInt8} {minor : Int} {A : Option Addr} {C : Nat} {fs : List (List UInt8 × List UInt8)} (h : Rd tyField w0 base H A C fs) {nm : List UInt8} (hnm : nm.length ≤ 140737488355000) (hfl : fs.length ≤ 1000) (hb : ∀ f ∈ fs, f.1.length ≤ 140737488355000 ∧ f.2.length ≤ 140737488355000) :
    SCalls Tryz.prog 117 [.agg #[str m, str t, .int .i64 minor, .slice A fs.length C], str nm] w0 base (H) (fun v H' => ∃ x : Sl tyS 9, x.l = allF fs nm ∧ v = .slice x.A x.l.length x.C ∧ H' = x.s :: H) := by
  have hle0 := h.le
  have hcap0 := h.cap
  refine SCalls.of_walk (n := 28) Tryz.func117 rfl rfl rfl fun cs => ?_
  refine At.seq ?_
  refine At.region ?_
  refine AtL.box (cs := #[str m, str t, .int .i64 minor, .slice A fs.length C]) rfl (.inl rfl) rfl rfl ?_
  intro b1
  refine AtL.assign (.inl rfl) rfl rfl ?_
  refine AtL.done ?_
  refine At.seq ?_
  refine At.region ?_
  refine AtL.assign (.inl rfl) rfl rfl ?_
  refine AtL.done ?_
  refine At.seq ?_
  refine At.seq ?_
  refine At.region ?_
  refine AtL.fieldAddrB tf_fo47_3 (.inl rfl) rfl rfl rfl ?_
  refine AtL.load tf_flat45 (.inl rfl) rfl rfl (Cell.own 0 0 rfl rfl rfl) ?_
  refine AtL.lenL Tryz.underlying45 (.inl rfl) rfl rfl ?_
  refine AtL.move (.inl rfl) rfl rfl ?_
  refine AtL.done ?_
  refine At.block ?_
  refine At.nil ?_
  refine At.pick (H' := [] :: H) [0] 2 rfl rfl ?_
  refine At.loop2 (fun (k : Nat) (x : Sl tyS 9) => [(1, str nm), (5, .slice x.A x.l.length x.C), (9, .slice A fs.length C), (10, .int .i64 (fs.length : Int)), (11, .int .i64 (k : Int))]) (fun (k : Nat) (x : Sl tyS 9) => x.s :: H) (fun (k : Nat) (x : Sl tyS 9) => k ≤ fs.length ∧ x.l = allF (fs.take k) nm) (fun (k : Nat) (x : Sl tyS 9) => fs.length - k) 0 Sl.nil (⟨Nat.zero_le _, rfl⟩) ⟨rfl, rfl, rfl, rfl, rfl, trivial⟩ rfl ?_
  rintro k x ⟨hk, hx⟩ ihL1
  have hcap := Own.cap_le x.own
  have hle := Own.le_cap x.own
  have hxl := allF_len (fs.take k) nm
  rw [← hx, List.length_take] at hxl
  refine At.seq ?_
  refine At.region ?_
  refine AtL.lss (.inl rfl) rfl rfl rfl ?_
  refine AtL.done ?_
  refine At.seq ?_
  refine At.cond rfl ?_ ?_
  · intro hc1
    have hc1 : (k : Int) < (fs.length : Int) := of_decide_eq_true hc1
    have hbk := hb _ (getD_mem (l := fs) (i := k) (d := (([], []) : List UInt8 × List UInt8)) (by omega))
    refine At.skip ?_
    refine At.seq ?_
    refine At.block ?_
    refine At.seq ?_
    refine At.region ?_
    refine AtL.indexL k (Rd.skip 1 h) Tryz.underlying45 tf_sz78 (.inl rfl) rfl rfl rfl rfl (by omega) ?_
    refine AtL.loadE (n := 0) (Rd.skip 1 h) (getD_some (([], []) : List UInt8 × List UInt8) (by omega)) rfl tf_agg78 (.inl rfl) rfl rfl ?_
    refine AtL.alloc tf_zero78 (cs := #[str [], str []]) rfl (.inl rfl) rfl ?_
    intro b2
    refine AtL.store (H' := [(b2, .cells #[str ((fs.getD k (([], []) : List UInt8 × List UInt8)).1), str ((fs.getD k (([], []) : List UInt8 × List UInt8)).2)] 78 (0, 0))] :: x.s :: H) 0 0 tf_sz78 (.inl rfl) rfl rfl rfl rfl rfl rfl rfl rfl rfl ?_
    refine AtL.done ?_
    refine At.seq ?_
    refine At.region ?_
    refine AtL.fieldAddrB tf_fo78_0 (.inl rfl) rfl rfl rfl ?_
    refine AtL.load tf_flat9 (.inl rfl) rfl rfl (Cell.own 0 0 rfl rfl rfl) ?_
    refine AtL.call tf_body119 (.inl rfl) rfl rfl (lower_ok (l := (fs.getD k (([], []) : List UInt8 × List UInt8)).1) (by first | omega | (simp only [List.length_append, List.length_cons, List.length_nil]; omega) | (simp; done) | (simp; omega))) ?_
    rintro _ _ ⟨rfl, rfl⟩
    refine AtL.move (.inl rfl) rfl rfl ?_
    refine AtL.call tf_body119 (.inl rfl) rfl rfl (lower_ok (l := nm) (by first | omega | (simp only [List.length_append, List.length_cons, List.length_nil]; omega) | (simp; done) | (simp; omega))) ?_
    rintro _ _ ⟨rfl, rfl⟩
    refine AtL.eqs (a := lowerF ((fs.getD k (([], []) : List UInt8 × List UInt8)).1)) (b := lowerF nm) (.inl rfl) rfl rfl rfl ?_
    refine AtL.done ?_
    refine At.cond rfl ?_ ?_
    · intro hc2
      have hc2 : lowerF ((fs.getD k (([], []) : List UInt8 × List UInt8)).1) = lowerF nm := of_decide_eq_true hc2
      refine At.region ?_
      refine AtL.move (.inl rfl) rfl rfl ?_
      refine AtL.fieldAddrB tf_fo78_1 (.inl rfl) rfl rfl rfl ?_
      refine AtL.load tf_flat9 (.inl rfl) rfl rfl (Cell.own 0 0 rfl rfl rfl) ?_
      refine AtL.buildSlice (cs := [str ((fs.getD k (([], []) : List UInt8 × List UInt8)).2)]) Tryz.underlying109 tf_zero9 tf_sz9 rfl rfl (.inl rfl) rfl rfl rfl ?_
      intro b3
      refine AtL.own1 tyS (l := ([(fs.getD k (([], []) : List UInt8 × List UInt8)).2] : List (List UInt8))) rfl rfl (by first | decide | simp) ?_
      intro s4 o5
      refine AtL.append (l := x.l) (news := [(fs.getD k (([], []) : List UInt8 × List UInt8)).2]) 2 tf_el109 rfl x.own (o5.rd (i := 0) rfl) (by first | omega | (simp only [List.length_append, List.length_cons, List.length_nil]; omega) | (simp; done) | (simp; omega)) (.inl rfl) rfl rfl rfl ?_
      intro A6 C7 s8 o9
      refine AtL.assign (.inl rfl) rfl rfl ?_
      refine AtL.done ?_
      refine At.inBlock ?_
      refine At.region ?_
      refine AtL.add (z := (k : Int) + 1) (.inl rfl) rfl rfl rfl (w64 (by omega) (by omega)) ?_
      refine AtL.move (.inl rfl) rfl rfl ?_
      refine AtL.done ?_
      refine At.pick (H' := s8 :: H) [2] 3 rfl rfl ?_
      refine ihL1 (k + 1) (⟨A6, C7, x.l ++ ([(fs.getD k (([], []) : List UInt8 × List UInt8)).2]), s8, o9⟩) (⟨by omega, by rw [allF_snoc _ _ (by omega), if_pos hc2, ← hx]⟩) (by omega) _ ?_
      exact ⟨rfl, (by first | rfl | exact slLen (by simp []) | exact intEq (by omega) | exact intEq (by simp []) | exact slLen (by simp []; omega)), rfl, rfl, (by first | rfl | exact slLen (by simp []) | exact intEq (by omega) | exact intEq (by simp []) | exact slLen (by simp []; omega)), trivial⟩
    · intro hc2
      have hc2 : ¬ (lowerF ((fs.getD k (([], []) : List UInt8 × List UInt8)).1) = lowerF nm) := of_decide_eq_false hc2
      refine At.skip ?_
      refine At.inBlock ?_
      refine At.region ?_
      refine AtL.add (z := (k : Int) + 1) (.inl rfl) rfl rfl rfl (w64 (by omega) (by omega)) ?_
      refine AtL.move (.inl rfl) rfl rfl ?_
      refine AtL.done ?_
      refine At.pick (H' := x.s :: H) [1] 2 rfl rfl ?_
      refine ihL1 (k + 1) x (⟨by omega, by rw [allF_snoc _ _ (by omega), if_neg hc2, List.append_nil, ← hx]⟩) (by omega) _ ?_
      exact ⟨rfl, (by first | rfl | exact slLen (by simp []) | exact intEq (by omega) | exact intEq (by simp []) | exact slLen (by simp []; omega)), rfl, rfl, (by first | rfl | exact slLen (by simp []) | exact intEq (by omega) | exact intEq (by simp []) | exact slLen (by simp []; omega)), trivial⟩
  · intro hc1
    have hc1 : ¬ ((k : Int) < (fs.length : Int)) := of_decide_eq_false hc1
    refine At.exit rfl ?_
    refine At.seq ?_
    refine At.region ?_
    refine AtL.move (.inl rfl) rfl rfl ?_
    refine AtL.assign (.inl rfl) rfl rfl ?_
    refine AtL.done ?_
    exact At.ret Tryz.func117 rfl rfl (⟨x, by rw [List.take_of_length_le (show fs.length ≤ k by omega)] at hx; exact hx, rfl, rfl⟩)

set_option maxHeartbeats 400000 in
theorem field_ok {w0 : World} {base : Nat} {H : List Seg} {m t : List UInt8} {minor : Int} {A : Option Addr} {C : Nat} {fs : List (List UInt8 × List UInt8)} (h : Rd tyField w0 base H A C fs) {nm : List UInt8} (hnm : nm.length ≤ 140737488355000) (hfl : fs.length ≤ 1000) (hb : ∀ f ∈ fs, f.1.length ≤ 140737488355000 ∧ f.2.length ≤ 140737488355000) :
    SCalls Tryz.prog 76 [.agg #[str m, str t, .int .i64 minor, .slice A fs.length C], str nm] w0 base (H) (fun v H' => v = .tuple #[str (fieldF fs nm).1, int ((fieldF fs nm).2 : Int)] ∧ H' = H) := by
  refine SCalls.of_walk (n := 18) Tryz.func76 rfl rfl rfl fun cs => ?_
  refine At.seq ?_
  refine At.region ?_
  refine AtL.box (cs := #[str m, str t, .int .i64 minor, .slice A fs.length C]) rfl (.inl rfl) rfl rfl ?_
  intro b1
  refine AtL.assign (.inl rfl) rfl rfl ?_
  refine AtL.assign (.inl rfl) rfl rfl ?_
  refine AtL.done ?_
  refine At.seq ?_
  refine At.region ?_
  refine AtL.loadN (cs := [str m, str t, .int .i64 minor, .slice A fs.length C]) tf_agg47 (.inl rfl) rfl rfl rfl (cellsOwn 0 0 0 rfl rfl rfl) ?_
  refine AtL.move (.inl rfl) rfl rfl ?_
  refine AtL.call tf_body117 (.inl rfl) rfl rfl (all_ok (fs := fs) (Rd.skip 1 h) (nm := nm) (by first | omega | decide) hfl hb) ?_
  rintro _ _ ⟨⟨A2, C3, l4, s5, o6⟩, hx7, rfl, rfl⟩
  obtain rfl : allF fs nm = l4 := hx7.symm
  refine AtL.assign (.inl rfl) rfl rfl ?_
  refine AtL.done ?_
  refine At.seq ?_
  refine At.seq ?_
  refine At.region ?_
  refine AtL.move (.inl rfl) rfl rfl ?_
  refine AtL.lenL Tryz.underlying109 (.inl rfl) rfl rfl ?_
  refine AtL.eqi (.inl rfl) rfl rfl rfl ?_
  refine AtL.done ?_
  refine At.cond rfl ?_ ?_
  · intro hc1
    have hc1 : ((allF fs nm).length : Int) = 0 := of_decide_eq_true hc1
    have hnil : allF fs nm = [] := List.eq_nil_of_length_eq_zero (by omega)
    refine At.seq ?_
    refine At.region ?_
    refine AtL.assign (.inl rfl) rfl rfl ?_
    refine AtL.assign (.inl rfl) rfl rfl ?_
    refine AtL.done ?_
    refine At.pick (H' := H) [] 2 rfl rfl ?_
    exact At.ret Tryz.func76 rfl rfl (⟨by rw [fieldF, hnil]; rfl, rfl⟩)
  · intro hc1
    have hc1 : ¬ (((allF fs nm).length : Int) = 0) := of_decide_eq_false hc1
    have hcons : 0 < (allF fs nm).length := by omega
    refine At.skip ?_
    refine At.seq ?_
    refine At.region ?_
    refine AtL.move (.inl rfl) rfl rfl ?_
    refine AtL.indexL 0 (o6.rd (i := 0) rfl) Tryz.underlying109 tf_sz9 (.inl rfl) rfl rfl rfl rfl (by omega) ?_
    refine AtL.load (v := str ((allF fs nm).getD 0 [])) tf_flat9 (.inl rfl) rfl rfl (Rd.cell0 (o6.rd (i := 0) rfl) (getD_some [] (by omega)) rfl) ?_
    refine AtL.move (.inl rfl) rfl rfl ?_
    refine AtL.lenL Tryz.underlying109 (.inl rfl) rfl rfl ?_
    refine AtL.assign (.inl rfl) rfl rfl ?_
    refine AtL.assign (.inl rfl) rfl rfl ?_
    refine AtL.done ?_
    refine At.pick (H' := H) [] 2 rfl rfl ?_
    exact At.ret Tryz.func76 rfl rfl (⟨by rw [fieldF, headD_getD]; rfl, rfl⟩)

set_option maxHeartbeats 400000 in
theorem hosts_ok {w0 : World} {base : Nat} {H : List Seg} {m t : List UInt8} {minor : Int} {A : Option Addr} {C : Nat} {fs : List (List UInt8 × List UInt8)} (h : Rd tyField w0 base H A C fs) (hfl : fs.length ≤ 1000) (hb : ∀ f ∈ fs, f.1.length ≤ 140737488355000 ∧ f.2.length ≤ 140737488355000) :
    SCalls Tryz.prog 104 [.agg #[str m, str t, .int .i64 minor, .slice A fs.length C]] w0 base (H) (fun v H' => v = .bool (hostsF fs minor) ∧ H' = H) := by
  refine SCalls.of_walk (n := 21) Tryz.func104 rfl rfl rfl fun cs => ?_
  refine At.seq ?_
  refine At.region ?_
  refine AtL.box (cs := #[str m, str t, .int .i64 minor, .slice A fs.length C]) rfl (.inl rfl) rfl rfl ?_
  intro b1
  refine AtL.assign (.inl rfl) rfl rfl ?_
  refine AtL.done ?_
  refine At.seq ?_
  refine At.region ?_
  refine AtL.loadN (cs := [str m, str t, .int .i64 minor, .slice A fs.length C]) tf_agg47 (.inl rfl) rfl rfl rfl (cellsOwn 0 0 0 rfl rfl rfl) ?_
  refine AtL.call tf_body76 (.inl rfl) rfl rfl (field_ok (fs := fs) (Rd.skip 1 h) (nm := [104, 111, 115, 116]) (by first | omega | decide) hfl hb) ?_
  rintro _ _ ⟨rfl, rfl⟩
  refine AtL.move (.inl rfl) rfl rfl ?_
  refine AtL.extract (.inl rfl) rfl rfl rfl ?_
  refine AtL.extract (.inl rfl) rfl rfl rfl ?_
  refine AtL.assign (.inl rfl) rfl rfl ?_
  refine AtL.assign (.inl rfl) rfl rfl ?_
  refine AtL.done ?_
  refine At.seq ?_
  refine At.region ?_
  refine AtL.move (.inl rfl) rfl rfl ?_
  refine AtL.eqi (.inl rfl) rfl rfl rfl ?_
  refine AtL.move (.inl rfl) rfl rfl ?_
  refine AtL.join 8 (E' := [(20, .bool (decide ((((fieldF fs [104, 111, 115, 116]).2 : Int) = 1) ∨ ((((fieldF fs [104, 111, 115, 116]).2 : Int) = 0) ∧ ((minor : Int) = 0)))))]) (H' := [(b1, .cells #[str m, str t, .int .i64 minor, .slice A fs.length C] 47 (0, 0))] :: H) (fun J => ?_) ?_
  · refine AtL.split (t := 12) rfl ?_ ?_
    · intro hs12
      have hs12 : ((fieldF fs [104, 111, 115, 116]).2 : Int) = 1 := of_decide_eq_true hs12
      refine AtL.skipped rfl rfl rfl rfl rfl rfl ?_
      refine AtL.skipped rfl rfl rfl rfl rfl rfl ?_
      refine AtL.skipped rfl rfl rfl rfl rfl rfl ?_
      refine AtL.skippedU rfl rfl rfl rfl rfl ?_
      refine AtL.skippedU rfl rfl rfl rfl rfl ?_
      refine AtL.skippedU rfl rfl rfl rfl rfl ?_
      refine AtL.skipped rfl rfl rfl rfl rfl rfl ?_
      refine AtL.pickT (.inl rfl) rfl rfl rfl ?_
      exact J _ (by exact ⟨(boolIs (by clear J; first | (simp [hs12]; done) | (simp_all; done) | grind)), trivial⟩)
    · intro hs12
      have hs12 : ¬ (((fieldF fs [104, 111, 115, 116]).2 : Int) = 1) := of_decide_eq_false hs12
      refine AtL.move (.inr ⟨_, _, _, rfl, rfl, rfl, rfl⟩) rfl rfl ?_
      refine AtL.eqi (.inr ⟨_, _, _, rfl, rfl, rfl, rfl⟩) rfl rfl rfl ?_
      refine AtL.move (.inr ⟨_, _, _, rfl, rfl, rfl, rfl⟩) rfl rfl ?_
      refine AtL.join 4 (E' := [(19, .bool (decide ((((fieldF fs [104, 111, 115, 116]).2 : Int) = 0) ∧ ((minor : Int) = 0)))), (12, .bool false)]) (H' := [(b1, .cells #[str m, str t, .int .i64 minor, .slice A fs.length C] 47 (0, 0))] :: H) (fun J => ?_) ?_
      · refine AtL.split (t := 15) rfl ?_ ?_
        · intro hs15
          have hs15 : ((fieldF fs [104, 111, 115, 116]).2 : Int) = 0 := of_decide_eq_true hs15
          refine AtL.fieldAddrB tf_fo47_2 (.inr ⟨_, _, _, rfl, rfl, rfl, rfl⟩) rfl rfl rfl ?_
          refine AtL.load tf_flat3 (.inr ⟨_, _, _, rfl, rfl, rfl, rfl⟩) rfl rfl (Cell.own 0 0 rfl rfl rfl) ?_
          refine AtL.eqi (.inr ⟨_, _, _, rfl, rfl, rfl, rfl⟩) rfl rfl rfl ?_
          refine AtL.pickT (.inr ⟨_, _, _, rfl, rfl, rfl, rfl⟩) rfl rfl rfl ?_
          exact J _ (by exact ⟨(boolIs (by clear J; first | (simp [hs15]; done) | (simp_all; done) | grind)), rfl, trivial⟩)
        · intro hs15
          have hs15 : ¬ (((fieldF fs [104, 111, 115, 116]).2 : Int) = 0) := of_decide_eq_false hs15
          refine AtL.skipped rfl rfl rfl rfl rfl rfl ?_
          refine AtL.skipped rfl rfl rfl rfl rfl rfl ?_
          refine AtL.skipped rfl rfl rfl rfl rfl rfl ?_
          refine AtL.pickF (.inr ⟨_, _, _, rfl, rfl, rfl, rfl⟩) rfl rfl rfl ?_
          exact J _ (by exact ⟨(boolIs (by clear J; first | (simp [hs15]; done) | (simp_all; done) | grind)), rfl, trivial⟩)
      · skip
        refine AtL.pickF (.inl rfl) rfl rfl rfl ?_
        exact J _ (by exact ⟨(boolIs (by clear J; first | (simp [hs12]; done) | (simp_all; done) | grind)), trivial⟩)
  · skip
    refine AtL.assign (.inl rfl) rfl rfl ?_
    refine AtL.done ?_
    refine At.pick (H' := H) [] 1 rfl rfl ?_
    exact At.ret Tryz.func104 rfl rfl (⟨congrArg Value.bool (by rw [hostsF]; exact decide_eq_decide.2 (by show _ ↔ ((fieldF fs [104, 111, 115, 116]).2 = 1 ∨ ((fieldF fs [104, 111, 115, 116]).2 = 0 ∧ minor = 0)); omega)), rfl⟩)

theorem ok_bad {h : HeadV} {k : Nat} (hk : k < h.fs.length) (hf : fieldOk (h.fs.getD k ([], [])) = false) : okF h = false := by
  have : h.fs.all fieldOk = false := by
    rw [List.all_eq_false]
    exact ⟨_, getD_mem hk, by rw [hf]; simp⟩
  rw [okF, this]; simp
theorem all_stepF {fs : List Fld} {k : Nat} (h : k < fs.length) (ha : (fs.take k).all fieldOk = true) (hp : fieldOk (fs.getD k ([], [])) = true) : (fs.take (k + 1)).all fieldOk = true := by
  have h1 : fs.take (k + 1) = fs.take k ++ [fs.getD k ([], [])] := by rw [List.take_succ_eq_append_getElem h]; simp [List.getD, h]
  rw [h1, List.all_append, ha]; simpa using hp

set_option maxHeartbeats 400000 in
theorem fine_ok {w0 : World} {base : Nat} {H : List Seg} {m t : List UInt8} {minor : Int} {A : Option Addr} {C : Nat} {fs : List (List UInt8 × List UInt8)} (h : Rd tyField w0 base H A C fs) (hfl : fs.length ≤ 1000) (hb : ∀ f ∈ fs, f.1.length ≤ 140737488355000 ∧ f.2.length ≤ 140737488355000) (hm : m.length ≤ 140737488355000) (ht : t.length ≤ 140737488355000) :
    SCalls Tryz.prog 86 [.agg #[str m, str t, .int .i64 minor, .slice A fs.length C]] w0 base (H) (fun v H' => v = .bool (okF ⟨m, t, minor, fs⟩) ∧ H' = H) := by
  have hle0 := h.le
  have hcap0 := h.cap
  refine SCalls.of_walk (n := 57) Tryz.func86 rfl rfl rfl fun cs => ?_
  refine At.seq ?_
  refine At.region ?_
  refine AtL.box (cs := #[str m, str t, .int .i64 minor, .slice A fs.length C]) rfl (.inl rfl) rfl rfl ?_
  intro b1
  refine AtL.assign (.inl rfl) rfl rfl ?_
  refine AtL.done ?_
  refine At.seq ?_
  refine At.seq ?_
  refine At.region ?_
  refine AtL.fieldAddrB tf_fo47_0 (.inl rfl) rfl rfl rfl ?_
  refine AtL.load tf_flat9 (.inl rfl) rfl rfl (Cell.own 0 0 rfl rfl rfl) ?_
  refine AtL.call tf_body99 (.inl rfl) rfl rfl (word_ok (l := m) (by first | omega | (simp only [List.length_append, List.length_cons, List.length_nil]; omega) | (simp; done) | (simp; omega)) 16) ?_
  rintro _ _ ⟨rfl, rfl⟩
  refine AtL.not (.inl rfl) rfl rfl ?_
  refine AtL.move (.inl rfl) rfl rfl ?_
  refine AtL.join 5 (E' := [(14, .bool (decide (((wordF m 16) = false) ∨ (2048 < (t.length : Int))))), (1, .pointer (some ⟨b1, 0, none⟩))]) (H' := [(b1, .cells #[str m, str t, .int .i64 minor, .slice A fs.length C] 47 (0, 0))] :: H) (fun J => ?_) ?_
  · refine AtL.split (t := 9) rfl ?_ ?_
    · intro hs9
      have hs9 : (wordF m 16) = false := bnot_true hs9
      refine AtL.skipped rfl rfl rfl rfl rfl rfl ?_
      refine AtL.skipped rfl rfl rfl rfl rfl rfl ?_
      refine AtL.skipped rfl rfl rfl rfl rfl rfl ?_
      refine AtL.skipped rfl rfl rfl rfl rfl rfl ?_
      refine AtL.pickT (.inl rfl) rfl rfl rfl ?_
      exact J _ (by exact ⟨(boolIs (by clear J; first | (simp [hs9]; done) | (simp_all; done) | grind)), rfl, trivial⟩)
    · intro hs9
      have hs9 : (wordF m 16) = true := bnot_false hs9
      refine AtL.fieldAddrB tf_fo47_1 (.inr ⟨_, _, _, rfl, rfl, rfl, rfl⟩) rfl rfl rfl ?_
      refine AtL.load tf_flat9 (.inr ⟨_, _, _, rfl, rfl, rfl, rfl⟩) rfl rfl (Cell.own 0 0 rfl rfl rfl) ?_
      refine AtL.lenS (l := t) Tryz.underlying9 (.inr ⟨_, _, _, rfl, rfl, rfl, rfl⟩) rfl rfl ?_
      refine AtL.gtr (.inr ⟨_, _, _, rfl, rfl, rfl, rfl⟩) rfl rfl rfl ?_
      refine AtL.pickF (.inl rfl) rfl rfl rfl ?_
      exact J _ (by exact ⟨(boolIs (by clear J; first | (simp [hs9]; done) | (simp_all; done) | grind)), rfl, trivial⟩)
  · skip
    refine AtL.move (.inl rfl) rfl rfl ?_
    refine AtL.join 5 (E' := [(20, .bool (decide ((((wordF m 16) = false) ∨ (2048 < (t.length : Int))) ∨ ((targetF t) = false)))), (1, .pointer (some ⟨b1, 0, none⟩))]) (H' := [(b1, .cells #[str m, str t, .int .i64 minor, .slice A fs.length C] 47 (0, 0))] :: H) (fun J => ?_) ?_
    · refine AtL.split (t := 15) rfl ?_ ?_
      · intro hs15
        have hs15 : ((wordF m 16) = false) ∨ (2048 < (t.length : Int)) := of_decide_eq_true hs15
        refine AtL.skipped rfl rfl rfl rfl rfl rfl ?_
        refine AtL.skipped rfl rfl rfl rfl rfl rfl ?_
        refine AtL.skipped rfl rfl rfl rfl rfl rfl ?_
        refine AtL.skipped rfl rfl rfl rfl rfl rfl ?_
        refine AtL.pickT (.inl rfl) rfl rfl rfl ?_
        exact J _ (by exact ⟨(boolIs (by clear J; first | (simp [hs15]; done) | (simp_all; done) | grind)), rfl, trivial⟩)
      · intro hs15
        have hs15 : ¬ (((wordF m 16) = false) ∨ (2048 < (t.length : Int))) := of_decide_eq_false hs15
        refine AtL.fieldAddrB tf_fo47_1 (.inr ⟨_, _, _, rfl, rfl, rfl, rfl⟩) rfl rfl rfl ?_
        refine AtL.load tf_flat9 (.inr ⟨_, _, _, rfl, rfl, rfl, rfl⟩) rfl rfl (Cell.own 0 0 rfl rfl rfl) ?_
        refine AtL.call tf_body101 (.inr ⟨_, _, _, rfl, rfl, rfl, rfl⟩) rfl rfl (target_ok (l := t) (by first | omega | (simp only [List.length_append, List.length_cons, List.length_nil]; omega) | (simp; done) | (simp; omega))) ?_
        rintro _ _ ⟨rfl, rfl⟩
        refine AtL.not (.inr ⟨_, _, _, rfl, rfl, rfl, rfl⟩) rfl rfl ?_
        refine AtL.pickF (.inl rfl) rfl rfl rfl ?_
        exact J _ (by exact ⟨(boolIs (by clear J; first | (simp [hs15]; done) | (simp_all; done) | grind)), rfl, trivial⟩)
    · skip
      refine AtL.move (.inl rfl) rfl rfl ?_
      refine AtL.join 4 (E' := [(25, .bool (decide (((((wordF m 16) = false) ∨ (2048 < (t.length : Int))) ∨ ((targetF t) = false)) ∨ ((minor : Int) < 0)))), (1, .pointer (some ⟨b1, 0, none⟩))]) (H' := [(b1, .cells #[str m, str t, .int .i64 minor, .slice A fs.length C] 47 (0, 0))] :: H) (fun J => ?_) ?_
      · refine AtL.split (t := 21) rfl ?_ ?_
        · intro hs21
          have hs21 : (((wordF m 16) = false) ∨ (2048 < (t.length : Int))) ∨ ((targetF t) = false) := of_decide_eq_true hs21
          refine AtL.skipped rfl rfl rfl rfl rfl rfl ?_
          refine AtL.skipped rfl rfl rfl rfl rfl rfl ?_
          refine AtL.skipped rfl rfl rfl rfl rfl rfl ?_
          refine AtL.pickT (.inl rfl) rfl rfl rfl ?_
          exact J _ (by exact ⟨(boolIs (by clear J; first | (simp [hs21]; done) | (simp_all; done) | grind)), rfl, trivial⟩)
        · intro hs21
          have hs21 : ¬ ((((wordF m 16) = false) ∨ (2048 < (t.length : Int))) ∨ ((targetF t) = false)) := of_decide_eq_false hs21
          refine AtL.fieldAddrB tf_fo47_2 (.inr ⟨_, _, _, rfl, rfl, rfl, rfl⟩) rfl rfl rfl ?_
          refine AtL.load tf_flat3 (.inr ⟨_, _, _, rfl, rfl, rfl, rfl⟩) rfl rfl (Cell.own 0 0 rfl rfl rfl) ?_
          refine AtL.lss (.inr ⟨_, _, _, rfl, rfl, rfl, rfl⟩) rfl rfl rfl ?_
          refine AtL.pickF (.inl rfl) rfl rfl rfl ?_
          exact J _ (by exact ⟨(boolIs (by clear J; first | (simp [hs21]; done) | (simp_all; done) | grind)), rfl, trivial⟩)
      · skip
        refine AtL.move (.inl rfl) rfl rfl ?_
        refine AtL.join 4 (E' := [(30, .bool (decide ((((((wordF m 16) = false) ∨ (2048 < (t.length : Int))) ∨ ((targetF t) = false)) ∨ ((minor : Int) < 0)) ∨ (1 < (minor : Int))))), (1, .pointer (some ⟨b1, 0, none⟩))]) (H' := [(b1, .cells #[str m, str t, .int .i64 minor, .slice A fs.length C] 47 (0, 0))] :: H) (fun J => ?_) ?_
        · refine AtL.split (t := 26) rfl ?_ ?_
          · intro hs26
            have hs26 : ((((wordF m 16) = false) ∨ (2048 < (t.length : Int))) ∨ ((targetF t) = false)) ∨ ((minor : Int) < 0) := of_decide_eq_true hs26
            refine AtL.skipped rfl rfl rfl rfl rfl rfl ?_
            refine AtL.skipped rfl rfl rfl rfl rfl rfl ?_
            refine AtL.skipped rfl rfl rfl rfl rfl rfl ?_
            refine AtL.pickT (.inl rfl) rfl rfl rfl ?_
            exact J _ (by exact ⟨(boolIs (by clear J; first | (simp [hs26]; done) | (simp_all; done) | grind)), rfl, trivial⟩)
          · intro hs26
            have hs26 : ¬ (((((wordF m 16) = false) ∨ (2048 < (t.length : Int))) ∨ ((targetF t) = false)) ∨ ((minor : Int) < 0)) := of_decide_eq_false hs26
            refine AtL.fieldAddrB tf_fo47_2 (.inr ⟨_, _, _, rfl, rfl, rfl, rfl⟩) rfl rfl rfl ?_
            refine AtL.load tf_flat3 (.inr ⟨_, _, _, rfl, rfl, rfl, rfl⟩) rfl rfl (Cell.own 0 0 rfl rfl rfl) ?_
            refine AtL.gtr (.inr ⟨_, _, _, rfl, rfl, rfl, rfl⟩) rfl rfl rfl ?_
            refine AtL.pickF (.inl rfl) rfl rfl rfl ?_
            exact J _ (by exact ⟨(boolIs (by clear J; first | (simp [hs26]; done) | (simp_all; done) | grind)), rfl, trivial⟩)
        · skip
          refine AtL.move (.inl rfl) rfl rfl ?_
          refine AtL.join 5 (E' := [(36, .bool (decide (((((((wordF m 16) = false) ∨ (2048 < (t.length : Int))) ∨ ((targetF t) = false)) ∨ ((minor : Int) < 0)) ∨ (1 < (minor : Int))) ∨ (32 < (fs.length : Int))))), (1, .pointer (some ⟨b1, 0, none⟩))]) (H' := [(b1, .cells #[str m, str t, .int .i64 minor, .slice A fs.length C] 47 (0, 0))] :: H) (fun J => ?_) ?_
          · refine AtL.split (t := 31) rfl ?_ ?_
            · intro hs31
              have hs31 : (((((wordF m 16) = false) ∨ (2048 < (t.length : Int))) ∨ ((targetF t) = false)) ∨ ((minor : Int) < 0)) ∨ (1 < (minor : Int)) := of_decide_eq_true hs31
              refine AtL.skipped rfl rfl rfl rfl rfl rfl ?_
              refine AtL.skipped rfl rfl rfl rfl rfl rfl ?_
              refine AtL.skipped rfl rfl rfl rfl rfl rfl ?_
              refine AtL.skipped rfl rfl rfl rfl rfl rfl ?_
              refine AtL.pickT (.inl rfl) rfl rfl rfl ?_
              exact J _ (by exact ⟨(boolIs (by clear J; first | (simp [hs31]; done) | (simp_all; done) | grind)), rfl, trivial⟩)
            · intro hs31
              have hs31 : ¬ ((((((wordF m 16) = false) ∨ (2048 < (t.length : Int))) ∨ ((targetF t) = false)) ∨ ((minor : Int) < 0)) ∨ (1 < (minor : Int))) := of_decide_eq_false hs31
              refine AtL.fieldAddrB tf_fo47_3 (.inr ⟨_, _, _, rfl, rfl, rfl, rfl⟩) rfl rfl rfl ?_
              refine AtL.load tf_flat45 (.inr ⟨_, _, _, rfl, rfl, rfl, rfl⟩) rfl rfl (Cell.own 0 0 rfl rfl rfl) ?_
              refine AtL.lenL Tryz.underlying45 (.inr ⟨_, _, _, rfl, rfl, rfl, rfl⟩) rfl rfl ?_
              refine AtL.gtr (.inr ⟨_, _, _, rfl, rfl, rfl, rfl⟩) rfl rfl rfl ?_
              refine AtL.pickF (.inl rfl) rfl rfl rfl ?_
              exact J _ (by exact ⟨(boolIs (by clear J; first | (simp [hs31]; done) | (simp_all; done) | grind)), rfl, trivial⟩)
          · skip
            refine AtL.done ?_
            refine At.cond rfl ?_ ?_
            · intro hc1
              have hc1 : ((((((wordF m 16) = false) ∨ (2048 < (t.length : Int))) ∨ ((targetF t) = false)) ∨ ((minor : Int) < 0)) ∨ (1 < (minor : Int))) ∨ (32 < (fs.length : Int)) := of_decide_eq_true hc1
              refine At.seq ?_
              refine At.region ?_
              refine AtL.assign (.inl rfl) rfl rfl ?_
              refine AtL.done ?_
              refine At.pick (H' := H) [] 1 rfl rfl ?_
              exact At.ret Tryz.func86 rfl rfl (⟨congrArg Value.bool (by simp only [okF]; rcases hc1 with ((((h1 | h1) | h1) | h1) | h1) | h1 <;> simp [h1] <;> omega), rfl⟩)
            · intro hc1
              have hc1 : ¬ (((((((wordF m 16) = false) ∨ (2048 < (t.length : Int))) ∨ ((targetF t) = false)) ∨ ((minor : Int) < 0)) ∨ (1 < (minor : Int))) ∨ (32 < (fs.length : Int))) := of_decide_eq_false hc1
              refine At.skip ?_
              refine At.seq ?_
              refine At.seq ?_
              refine At.region ?_
              refine AtL.fieldAddrB tf_fo47_3 (.inl rfl) rfl rfl rfl ?_
              refine AtL.load tf_flat45 (.inl rfl) rfl rfl (Cell.own 0 0 rfl rfl rfl) ?_
              refine AtL.lenL Tryz.underlying45 (.inl rfl) rfl rfl ?_
              refine AtL.move (.inl rfl) rfl rfl ?_
              refine AtL.done ?_
              refine At.block ?_
              refine At.loop (fun (k : Nat) => [(1, .pointer (some ⟨b1, 0, none⟩)), (38, .slice A fs.length C), (39, .int .i64 (fs.length : Int)), (40, .int .i64 (k : Int))]) (fun (k : Nat) => [(b1, .cells #[str m, str t, .int .i64 minor, .slice A fs.length C] 47 (0, 0))] :: H) (fun (k : Nat) => k ≤ fs.length ∧ (fs.take k).all fieldOk = true) (fun (k : Nat) => fs.length - k) 0 (⟨Nat.zero_le _, rfl⟩) ⟨rfl, rfl, rfl, rfl, trivial⟩ rfl ?_
              rintro k ⟨hk, ha⟩ ihL1
              refine At.seq ?_
              refine At.region ?_
              refine AtL.lss (.inl rfl) rfl rfl rfl ?_
              refine AtL.done ?_
              refine At.seq ?_
              refine At.cond rfl ?_ ?_
              · intro hc2
                have hc2 : (k : Int) < (fs.length : Int) := of_decide_eq_true hc2
                have hbk := hb _ (getD_mem (l := fs) (i := k) (d := (([], []) : List UInt8 × List UInt8)) (by omega))
                refine At.skip ?_
                refine At.seq ?_
                refine At.block ?_
                refine At.seq ?_
                refine At.region ?_
                refine AtL.indexL k (Rd.skip 1 h) Tryz.underlying45 tf_sz78 (.inl rfl) rfl rfl rfl rfl (by omega) ?_
                refine AtL.loadE (n := 0) (Rd.skip 1 h) (getD_some (([], []) : List UInt8 × List UInt8) (by omega)) rfl tf_agg78 (.inl rfl) rfl rfl ?_
                refine AtL.alloc tf_zero78 (cs := #[str [], str []]) rfl (.inl rfl) rfl ?_
                intro b2
                refine AtL.store (H' := [(b2, .cells #[str ((fs.getD k (([], []) : List UInt8 × List UInt8)).1), str ((fs.getD k (([], []) : List UInt8 × List UInt8)).2)] 78 (0, 0))] :: [(b1, .cells #[str m, str t, .int .i64 minor, .slice A fs.length C] 47 (0, 0))] :: H) 0 0 tf_sz78 (.inl rfl) rfl rfl rfl rfl rfl rfl rfl rfl rfl ?_
                refine AtL.done ?_
                refine At.seq ?_
                refine At.region ?_
                refine AtL.fieldAddrB tf_fo78_0 (.inl rfl) rfl rfl rfl ?_
                refine AtL.load tf_flat9 (.inl rfl) rfl rfl (Cell.own 0 0 rfl rfl rfl) ?_
                refine AtL.call tf_body99 (.inl rfl) rfl rfl (word_ok (l := (fs.getD k (([], []) : List UInt8 × List UInt8)).1) (by first | omega | (simp only [List.length_append, List.length_cons, List.length_nil]; omega) | (simp; done) | (simp; omega)) 64) ?_
                rintro _ _ ⟨rfl, rfl⟩
                refine AtL.not (.inl rfl) rfl rfl ?_
                refine AtL.move (.inl rfl) rfl rfl ?_
                refine AtL.join 5 (E' := [(53, .bool (decide (((wordF ((fs.getD k (([], []) : List UInt8 × List UInt8)).1) 64) = false) ∨ ((valueF ((fs.getD k (([], []) : List UInt8 × List UInt8)).2)) = false)))), (1, .pointer (some ⟨b1, 0, none⟩)), (38, .slice A fs.length C), (39, .int .i64 (fs.length : Int)), (40, .int .i64 (k : Int))]) (H' := [(b2, .cells #[str ((fs.getD k (([], []) : List UInt8 × List UInt8)).1), str ((fs.getD k (([], []) : List UInt8 × List UInt8)).2)] 78 (0, 0))] :: [(b1, .cells #[str m, str t, .int .i64 minor, .slice A fs.length C] 47 (0, 0))] :: H) (fun J => ?_) ?_
                · refine AtL.split (t := 48) rfl ?_ ?_
                  · intro hs48
                    have hs48 : (wordF ((fs.getD k (([], []) : List UInt8 × List UInt8)).1) 64) = false := bnot_true hs48
                    refine AtL.skipped rfl rfl rfl rfl rfl rfl ?_
                    refine AtL.skipped rfl rfl rfl rfl rfl rfl ?_
                    refine AtL.skipped rfl rfl rfl rfl rfl rfl ?_
                    refine AtL.skipped rfl rfl rfl rfl rfl rfl ?_
                    refine AtL.pickT (.inl rfl) rfl rfl rfl ?_
                    exact J _ (by exact ⟨(boolIs (by clear J; first | (simp [hs48]; done) | (simp_all; done) | grind)), rfl, rfl, rfl, rfl, trivial⟩)
                  · intro hs48
                    have hs48 : (wordF ((fs.getD k (([], []) : List UInt8 × List UInt8)).1) 64) = true := bnot_false hs48
                    refine AtL.fieldAddrB tf_fo78_1 (.inr ⟨_, _, _, rfl, rfl, rfl, rfl⟩) rfl rfl rfl ?_
                    refine AtL.load tf_flat9 (.inr ⟨_, _, _, rfl, rfl, rfl, rfl⟩) rfl rfl (Cell.own 0 0 rfl rfl rfl) ?_
                    refine AtL.call tf_body103 (.inr ⟨_, _, _, rfl, rfl, rfl, rfl⟩) rfl rfl (value_ok (l := (fs.getD k (([], []) : List UInt8 × List UInt8)).2) (by first | omega | (simp only [List.length_append, List.length_cons, List.length_nil]; omega) | (simp; done) | (simp; omega))) ?_
                    rintro _ _ ⟨rfl, rfl⟩
                    refine AtL.not (.inr ⟨_, _, _, rfl, rfl, rfl, rfl⟩) rfl rfl ?_
                    refine AtL.pickF (.inl rfl) rfl rfl rfl ?_
                    exact J _ (by exact ⟨(boolIs (by clear J; first | (simp [hs48]; done) | (simp_all; done) | grind)), rfl, rfl, rfl, rfl, trivial⟩)
                · skip
                  refine AtL.done ?_
                  refine At.cond rfl ?_ ?_
                  · intro hc3
                    have hc3 : ((wordF ((fs.getD k (([], []) : List UInt8 × List UInt8)).1) 64) = false) ∨ ((valueF ((fs.getD k (([], []) : List UInt8 × List UInt8)).2)) = false) := of_decide_eq_true hc3
                    refine At.seq ?_
                    refine At.region ?_
                    refine AtL.assign (.inl rfl) rfl rfl ?_
                    refine AtL.done ?_
                    refine At.pick (H' := H) [] 2 rfl rfl ?_
                    exact At.ret Tryz.func86 rfl rfl (⟨congrArg Value.bool (ok_bad (h := ⟨m, t, minor, fs⟩) (k := k) (show k < fs.length by omega) (by rw [fieldOk]; rcases hc3 with h3 | h3 <;> simp [h3] <;> simp_all)).symm, rfl⟩)
                  · intro hc3
                    have hc3 : ¬ (((wordF ((fs.getD k (([], []) : List UInt8 × List UInt8)).1) 64) = false) ∨ ((valueF ((fs.getD k (([], []) : List UInt8 × List UInt8)).2)) = false)) := of_decide_eq_false hc3
                    refine At.skip ?_
                    refine At.inBlock ?_
                    refine At.region ?_
                    refine AtL.add (z := (k : Int) + 1) (.inl rfl) rfl rfl rfl (w64 (by omega) (by omega)) ?_
                    refine AtL.move (.inl rfl) rfl rfl ?_
                    refine AtL.done ?_
                    refine At.pick (H' := [(b1, .cells #[str m, str t, .int .i64 minor, .slice A fs.length C] 47 (0, 0))] :: H) [1] 2 rfl rfl ?_
                    refine ihL1 (k + 1) (⟨by omega, all_stepF (by omega) ha (by rw [fieldOk]; simpa using hc3)⟩) (by omega) _ ?_
                    exact ⟨rfl, rfl, rfl, (by first | rfl | exact slLen (by simp []) | exact intEq (by omega) | exact intEq (by simp []) | exact slLen (by simp []; omega)), trivial⟩
              · intro hc2
                have hc2 : ¬ ((k : Int) < (fs.length : Int)) := of_decide_eq_false hc2
                refine At.exit rfl ?_
                refine At.seq ?_
                refine At.region ?_
                refine AtL.loadN (cs := [str m, str t, .int .i64 minor, .slice A fs.length C]) tf_agg47 (.inl rfl) rfl rfl rfl (cellsOwn 0 0 0 rfl rfl rfl) ?_
                refine AtL.call tf_body104 (.inl rfl) rfl rfl (hosts_ok (fs := fs) (Rd.skip 1 h) hfl hb) ?_
                rintro _ _ ⟨rfl, rfl⟩
                refine AtL.assign (.inl rfl) rfl rfl ?_
                refine AtL.done ?_
                refine At.pick (H' := H) [] 1 rfl rfl ?_
                exact At.ret Tryz.func86 rfl rfl (⟨congrArg Value.bool (by simp only [okF]; rw [show fs.all fieldOk = true from by rw [List.take_of_length_le (show fs.length ≤ k by omega)] at ha; exact ha]; simp only [not_or] at hc1; simp [hc1]; omega), rfl⟩)

end Go.Proofs.YtlkdmbpbjhjkfaaGreatDoor
