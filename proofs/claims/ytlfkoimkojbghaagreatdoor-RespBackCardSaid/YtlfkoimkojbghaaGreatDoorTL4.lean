/- RespBack: the walk. -/
import Derived.Test.YtlfkoimkojbghaaGreatDoorTL3
import Derived.Test.YtlfkoimkojbghaaGreatDoorTV3
namespace Go.Proofs.YtlfkoimkojbghaaGreatDoor
set_option linter.unusedVariables false
set_option linter.unusedSimpArgs false
set_option maxRecDepth 100000

theorem headR_len {r : RespV} (h : respE r = 0) : 20 ≤ (headR r).length ∧ (headR r).length ≤ 6000 := by
  obtain ⟨_, h1, h2, h3, h4, h5⟩ := resp_good h
  have d1 := decF_len r.st.toNat (by omega)
  have d2 := decF_len r.body.length (by omega)
  have d3 := reasonF_len r.st
  have d4 := stB_len r.st d1
  have d5 := lenB_len r.body.length d2
  have d6 : (fieldsR r.fs).length ≤ 5000 := by rw [fieldsR_len]; omega
  have d7 : 2 ≤ (endB r.keep).length ∧ (endB r.keep).length ≤ 30 := by cases r.keep <;> decide
  have d8 : 9 ≤ (stB r.st).length := by simp only [stB, H11, List.length_append, List.length_cons, List.length_nil]; omega
  have d9 : 16 ≤ (lenB r.body.length).length := by simp only [lenB, CLN, List.length_append, List.length_cons, List.length_nil]; omega
  simp only [headR, List.length_append]
  omega

def rvE (x : Int × Vs (List UInt8 × List UInt8) × Vs UInt8 × Bool) : RespV := ⟨x.1, x.2.1.l, x.2.2.1.l, x.2.2.2⟩
def catR (l : List (Int × Vs (List UInt8 × List UInt8) × Vs UInt8 × Bool)) : List UInt8 := l.flatMap fun x => respB (rvE x)
theorem catR_snoc (l : List (Int × Vs (List UInt8 × List UInt8) × Vs UInt8 × Bool)) (k : Nat) (h : k < l.length) : catR (l.take (k + 1)) = catR (l.take k) ++ respB (rvE (l.getD k ((0, ⟨none, 0, []⟩, ⟨none, 0, []⟩, false) : Int × Vs (List UInt8 × List UInt8) × Vs UInt8 × Bool))) := by
  rw [List.take_succ_eq_append_getElem h, show l.getD k ((0, ⟨none, 0, []⟩, ⟨none, 0, []⟩, false) : Int × Vs (List UInt8 × List UInt8) × Vs UInt8 × Bool) = l[k] by simp [List.getD, h]]
  simp only [catR, List.flatMap_append, List.flatMap_cons, List.flatMap_nil, List.append_nil]
theorem catR_split (l : List (Int × Vs (List UInt8 × List UInt8) × Vs UInt8 × Bool)) (k : Nat) (h : k < l.length) : catR l = catR (l.take k) ++ (respB (rvE (l.getD k ((0, ⟨none, 0, []⟩, ⟨none, 0, []⟩, false) : Int × Vs (List UInt8 × List UInt8) × Vs UInt8 × Bool))) ++ catR (l.drop (k + 1))) := by
  have e : l = l.take (k + 1) ++ l.drop (k + 1) := (List.take_append_drop _ _).symm
  conv => lhs; rw [e]
  rw [← List.append_assoc, ← catR_snoc l k h]
  simp only [catR, List.flatMap_append]
theorem rb_at {l : List (Int × Vs (List UInt8 × List UInt8) × Vs UInt8 × Bool)} {more B : List UInt8} (hB : B = catR l ++ more) {k p : Nat} (h : k < l.length) (hok : ∀ j, j < l.length → okR (rvE (l.getD j ((0, ⟨none, 0, []⟩, ⟨none, 0, []⟩, false) : Int × Vs (List UInt8 × List UInt8) × Vs UInt8 × Bool))) = true) (hp : p = (catR (l.take k)).length) : readF B (p : Int) = (⟨(l.getD k ((0, ⟨none, 0, []⟩, ⟨none, 0, []⟩, false) : Int × Vs (List UInt8 × List UInt8) × Vs UInt8 × Bool)).1, (l.getD k ((0, ⟨none, 0, []⟩, ⟨none, 0, []⟩, false) : Int × Vs (List UInt8 × List UInt8) × Vs UInt8 × Bool)).2.1.l, (l.getD k ((0, ⟨none, 0, []⟩, ⟨none, 0, []⟩, false) : Int × Vs (List UInt8 × List UInt8) × Vs UInt8 × Bool)).2.2.1.l, (l.getD k ((0, ⟨none, 0, []⟩, ⟨none, 0, []⟩, false) : Int × Vs (List UInt8 × List UInt8) × Vs UInt8 × Bool)).2.2.2⟩, ((p + (respB (rvE (l.getD k ((0, ⟨none, 0, []⟩, ⟨none, 0, []⟩, false) : Int × Vs (List UInt8 × List UInt8) × Vs UInt8 × Bool)))).length : Nat) : Int), 0) ∧ p + (respB (rvE (l.getD k ((0, ⟨none, 0, []⟩, ⟨none, 0, []⟩, false) : Int × Vs (List UInt8 × List UInt8) × Vs UInt8 × Bool)))).length ≤ B.length := by
  subst hB
  have e := catR_split l k h
  have hl : (catR l ++ more).length = p + ((respB (rvE (l.getD k ((0, ⟨none, 0, []⟩, ⟨none, 0, []⟩, false) : Int × Vs (List UInt8 × List UInt8) × Vs UInt8 × Bool)))).length + (catR (l.drop (k + 1)) ++ more).length) := by rw [e, hp]; simp only [List.length_append]; omega
  have hd : (catR l ++ more).drop (p : Int).toNat = respB (rvE (l.getD k ((0, ⟨none, 0, []⟩, ⟨none, 0, []⟩, false) : Int × Vs (List UInt8 × List UInt8) × Vs UInt8 × Bool))) ++ (catR (l.drop (k + 1)) ++ more) := by
    rw [Int.toNat_natCast, hp, e, List.append_assoc, List.drop_left, List.append_assoc]
  have := read_yes (b := catR l ++ more) (at_ := (p : Int)) (r := rvE (l.getD k ((0, ⟨none, 0, []⟩, ⟨none, 0, []⟩, false) : Int × Vs (List UInt8 × List UInt8) × Vs UInt8 × Bool))) (by omega) (hok k h) (by rw [hd]; exact ⟨_, rfl⟩)
  exact ⟨this, by omega⟩
theorem same_rv (x : Int × Vs (List UInt8 × List UInt8) × Vs UInt8 × Bool) : (!(decide ((⟨x.1, x.2.1.l, x.2.2.1.l, x.2.2.2⟩ : RespV) = ⟨x.1, x.2.1.l, x.2.2.1.l, x.2.2.2⟩))) = false := by simp

set_option maxHeartbeats 1000000 in
theorem respback_ok {w0 : World} {base : Nat} {H : List Seg} {A Am : Option Addr} {C Cm : Nat} {l : List (Int × Vs (List UInt8 × List UInt8) × Vs UInt8 × Bool)} {more : List UInt8} (h : Rd tyResp w0 base H A C l) (he : ∀ x ∈ l, (Rd tyField w0 base H x.2.1.A x.2.1.C x.2.1.l ∧ ∀ f ∈ x.2.1.l, f.1.length ≤ 140737488355000 ∧ f.2.length ≤ 140737488355000) ∧ Rd tyB w0 base H x.2.2.1.A x.2.2.1.C x.2.2.1.l) (hm : Rd tyB w0 base H Am Cm more) (T : Tabs w0 base) (ET : ErrTab w0 base) (T10 : Tab10 w0 base) :
    SCalls Tryz.prog 8 [.slice A l.length C, .slice Am more.length Cm] w0 base (H) (fun v H' => v = .bool true ∧ H' = H) := by
  have hle0 := h.le
  have hcap0 := h.cap
  have hlem := hm.le
  have hcapm := hm.cap
  refine SCalls.of_walk (n := 113) Tryz.func8 rfl rfl rfl fun cs => ?_
  refine At.seq ?_
  refine At.region ?_
  refine AtL.assign (.inl rfl) rfl rfl ?_
  refine AtL.done ?_
  refine At.seq ?_
  refine At.region ?_
  refine AtL.call tf_body7 (.inl rfl) rfl rfl (respknown_ok T ET T10) ?_
  rintro _ _ ⟨rfl, hHq⟩
  obtain rfl := hHq.symm
  refine AtL.assign (.inl rfl) rfl rfl ?_
  refine AtL.done ?_
  refine At.seq ?_
  refine At.seq ?_
  refine At.region ?_
  refine AtL.move (.inl rfl) rfl rfl ?_
  refine AtL.lenL Tryz.underlying53 (.inl rfl) rfl rfl ?_
  refine AtL.gtr (.inl rfl) rfl rfl rfl ?_
  refine AtL.move (.inl rfl) rfl rfl ?_
  refine AtL.split (t := 19) rfl ?_ ?_
  · intro hs19
    have hs19 : 6 < (l.length : Int) := of_decide_eq_true hs19
    refine AtL.skipped rfl rfl rfl rfl rfl rfl ?_
    refine AtL.skipped rfl rfl rfl rfl rfl rfl ?_
    refine AtL.skipped rfl rfl rfl rfl rfl rfl ?_
    refine AtL.pickT (.inl rfl) rfl rfl rfl ?_
    refine AtL.done ?_
    refine At.condT rfl ?_
    refine At.seq ?_
    refine At.region ?_
    refine AtL.move (.inl rfl) rfl rfl ?_
    refine AtL.assign (.inl rfl) rfl rfl ?_
    refine AtL.done ?_
    exact At.ret Tryz.func8 rfl rfl (⟨rfl, rfl⟩)
  · intro hs19
    have hs19 : ¬ (6 < (l.length : Int)) := of_decide_eq_false hs19
    refine AtL.move (.inr ⟨_, _, _, rfl, rfl, rfl, rfl⟩) rfl rfl ?_
    refine AtL.lenL Tryz.underlying22 (.inr ⟨_, _, _, rfl, rfl, rfl, rfl⟩) rfl rfl ?_
    refine AtL.gtr (.inr ⟨_, _, _, rfl, rfl, rfl, rfl⟩) rfl rfl rfl ?_
    refine AtL.pickF (.inl rfl) rfl rfl rfl ?_
    refine AtL.done ?_
    refine At.cond rfl ?_ ?_
    · intro hc1
      have hc1 : 600 < (more.length : Int) := of_decide_eq_true hc1
      refine At.seq ?_
      refine At.region ?_
      refine AtL.move (.inl rfl) rfl rfl ?_
      refine AtL.assign (.inl rfl) rfl rfl ?_
      refine AtL.done ?_
      exact At.ret Tryz.func8 rfl rfl (⟨rfl, rfl⟩)
    · intro hc1
      have hc1 : ¬ (600 < (more.length : Int)) := of_decide_eq_false hc1
      have hl6 : l.length ≤ 6 := by omega
      have hm6 : more.length ≤ 600 := by omega
      refine At.skip ?_
      refine At.seq ?_
      refine At.region ?_
      refine AtL.assign (.inl rfl) rfl rfl ?_
      refine AtL.done ?_
      refine At.seq ?_
      refine At.seq ?_
      refine At.region ?_
      refine AtL.assign (.inl rfl) rfl rfl ?_
      refine AtL.done ?_
      refine At.block ?_
      refine At.nil ?_
      refine At.loop2 (fun (k : Nat) (y : Sl tyB 5) => [(0, .slice A l.length C), (1, .slice Am more.length Cm), (5, .bool true), (6, .slice y.A y.l.length y.C), (7, .int .i64 (k : Int))]) (fun (k : Nat) (y : Sl tyB 5) => y.s :: H) (fun (k : Nat) (y : Sl tyB 5) => k ≤ l.length ∧ y.l = catR (l.take k) ∧ (∀ j, j < k → okR (rvE (l.getD j ((0, ⟨none, 0, []⟩, ⟨none, 0, []⟩, false) : Int × Vs (List UInt8 × List UInt8) × Vs UInt8 × Bool))) = true) ∧ y.l.length ≤ k * 6600) (fun (k : Nat) (y : Sl tyB 5) => l.length - k) 0 Sl.nil (⟨Nat.zero_le _, rfl, fun j hj => absurd hj (by omega), Nat.zero_le _⟩) ⟨rfl, rfl, rfl, rfl, rfl, trivial⟩ rfl ?_
      rintro k y ⟨hk, hy, hoks, hyl⟩ ihL1
      have hycap := Own.cap_le y.own
      refine At.seq ?_
      refine At.seq ?_
      refine At.region ?_
      refine AtL.move (.inl rfl) rfl rfl ?_
      refine AtL.move (.inl rfl) rfl rfl ?_
      refine AtL.lenL Tryz.underlying53 (.inl rfl) rfl rfl ?_
      refine AtL.lss (.inl rfl) rfl rfl rfl ?_
      refine AtL.done ?_
      refine At.cond rfl ?_ ?_
      · intro hc2
        have hc2 : (k : Int) < (l.length : Int) := of_decide_eq_true hc2
        have hek := he _ (getD_mem (l := l) (i := k) (d := ((0, ⟨none, 0, []⟩, ⟨none, 0, []⟩, false) : Int × Vs (List UInt8 × List UInt8) × Vs UInt8 × Bool)) (by omega))
        have hbk0 := hek.2.le
        refine At.skip ?_
        refine At.seq ?_
        refine At.block ?_
        refine At.seq ?_
        refine At.seq ?_
        refine At.region ?_
        refine AtL.move (.inl rfl) rfl rfl ?_
        refine AtL.move (.inl rfl) rfl rfl ?_
        refine AtL.indexL k (Rd.skip 1 h) Tryz.underlying53 tf_sz42 (.inl rfl) rfl rfl rfl rfl (by omega) ?_
        refine AtL.loadE (n := 0) (Rd.skip 1 h) (getD_some ((0, ⟨none, 0, []⟩, ⟨none, 0, []⟩, false) : Int × Vs (List UInt8 × List UInt8) × Vs UInt8 × Bool) (by omega)) rfl tf_agg42 (.inl rfl) rfl rfl ?_
        refine AtL.call tf_body47 (.inl rfl) rfl rfl (long15_ok (st := (l.getD k ((0, ⟨none, 0, []⟩, ⟨none, 0, []⟩, false) : Int × Vs (List UInt8 × List UInt8) × Vs UInt8 × Bool)).1) (fs := (l.getD k ((0, ⟨none, 0, []⟩, ⟨none, 0, []⟩, false) : Int × Vs (List UInt8 × List UInt8) × Vs UInt8 × Bool)).2.1.l) (b := (l.getD k ((0, ⟨none, 0, []⟩, ⟨none, 0, []⟩, false) : Int × Vs (List UInt8 × List UInt8) × Vs UInt8 × Bool)).2.2.1.l) (kp := (l.getD k ((0, ⟨none, 0, []⟩, ⟨none, 0, []⟩, false) : Int × Vs (List UInt8 × List UInt8) × Vs UInt8 × Bool)).2.2.2) (Rd.skip 1 (he _ (getD_mem (l := l) (i := k) (d := ((0, ⟨none, 0, []⟩, ⟨none, 0, []⟩, false) : Int × Vs (List UInt8 × List UInt8) × Vs UInt8 × Bool)) (by omega))).1.1) (Rd.skip 1 (he _ (getD_mem (l := l) (i := k) (d := ((0, ⟨none, 0, []⟩, ⟨none, 0, []⟩, false) : Int × Vs (List UInt8 × List UInt8) × Vs UInt8 × Bool)) (by omega))).2) (he _ (getD_mem (l := l) (i := k) (d := ((0, ⟨none, 0, []⟩, ⟨none, 0, []⟩, false) : Int × Vs (List UInt8 × List UInt8) × Vs UInt8 × Bool)) (by omega))).1.2) ?_
        rintro _ _ ⟨bl1, rfl, hx2, rfl⟩
        have hlong := hx2
        refine AtL.move (.inl rfl) rfl rfl ?_
        refine AtL.split (t := 36) rfl ?_ ?_
        · intro hs36
          have hs36 : bl1 = true := hs36
          refine AtL.skipped rfl rfl rfl rfl rfl rfl ?_
          refine AtL.skipped rfl rfl rfl rfl rfl rfl ?_
          refine AtL.skipped rfl rfl rfl rfl rfl rfl ?_
          refine AtL.skipped rfl rfl rfl rfl rfl rfl ?_
          refine AtL.skipped rfl rfl rfl rfl rfl rfl ?_
          refine AtL.skipped rfl rfl rfl rfl rfl rfl ?_
          refine AtL.skipped rfl rfl rfl rfl rfl rfl ?_
          refine AtL.pickT (.inl rfl) rfl rfl rfl ?_
          refine AtL.done ?_
          refine At.condT rfl ?_
          refine At.seq ?_
          refine At.region ?_
          refine AtL.move (.inl rfl) rfl rfl ?_
          refine AtL.assign (.inl rfl) rfl rfl ?_
          refine AtL.done ?_
          refine At.pick (H' := H) [] 1 rfl rfl ?_
          exact At.ret Tryz.func8 rfl rfl (⟨rfl, rfl⟩)
        · intro hs36
          have hs36 : bl1 = false := hs36
          refine AtL.move (.inr ⟨_, _, _, rfl, rfl, rfl, rfl⟩) rfl rfl ?_
          refine AtL.move (.inr ⟨_, _, _, rfl, rfl, rfl, rfl⟩) rfl rfl ?_
          refine AtL.indexL k (Rd.skip 1 h) Tryz.underlying53 tf_sz42 (.inr ⟨_, _, _, rfl, rfl, rfl, rfl⟩) rfl rfl rfl rfl (by omega) ?_
          refine AtL.fieldAddr tf_fo42_2 (.inr ⟨_, _, _, rfl, rfl, rfl, rfl⟩) rfl rfl ?_
          refine AtL.load (v := .slice ((l.getD k ((0, ⟨none, 0, []⟩, ⟨none, 0, []⟩, false) : Int × Vs (List UInt8 × List UInt8) × Vs UInt8 × Bool)).2.2.1.A) ((l.getD k ((0, ⟨none, 0, []⟩, ⟨none, 0, []⟩, false) : Int × Vs (List UInt8 × List UInt8) × Vs UInt8 × Bool)).2.2.1.l).length ((l.getD k ((0, ⟨none, 0, []⟩, ⟨none, 0, []⟩, false) : Int × Vs (List UInt8 × List UInt8) × Vs UInt8 × Bool)).2.2.1.C)) tf_flat22 (.inr ⟨_, _, _, rfl, rfl, rfl, rfl⟩) rfl rfl (Rd.cell_at (Rd.skip 1 h) (j := 2) (getD_some ((0, ⟨none, 0, []⟩, ⟨none, 0, []⟩, false) : Int × Vs (List UInt8 × List UInt8) × Vs UInt8 × Bool) (by omega)) rfl) ?_
          refine AtL.lenL Tryz.underlying22 (.inr ⟨_, _, _, rfl, rfl, rfl, rfl⟩) rfl rfl ?_
          refine AtL.gtr (.inr ⟨_, _, _, rfl, rfl, rfl, rfl⟩) rfl rfl rfl ?_
          refine AtL.pickF (.inl rfl) rfl rfl rfl ?_
          refine AtL.done ?_
          refine At.cond rfl ?_ ?_
          · intro hc3
            have hc3 : 600 < (((l.getD k ((0, ⟨none, 0, []⟩, ⟨none, 0, []⟩, false) : Int × Vs (List UInt8 × List UInt8) × Vs UInt8 × Bool)).2.2.1.l).length : Int) := of_decide_eq_true hc3
            refine At.seq ?_
            refine At.region ?_
            refine AtL.move (.inl rfl) rfl rfl ?_
            refine AtL.assign (.inl rfl) rfl rfl ?_
            refine AtL.done ?_
            refine At.pick (H' := H) [] 1 rfl rfl ?_
            exact At.ret Tryz.func8 rfl rfl (⟨rfl, rfl⟩)
          · intro hc3
            have hc3 : ¬ (600 < (((l.getD k ((0, ⟨none, 0, []⟩, ⟨none, 0, []⟩, false) : Int × Vs (List UInt8 × List UInt8) × Vs UInt8 × Bool)).2.2.1.l).length : Int)) := of_decide_eq_false hc3
            refine At.skip ?_
            refine At.seq ?_
            refine At.region ?_
            refine AtL.move (.inl rfl) rfl rfl ?_
            refine AtL.move (.inl rfl) rfl rfl ?_
            refine AtL.indexL k (Rd.skip 1 h) Tryz.underlying53 tf_sz42 (.inl rfl) rfl rfl rfl rfl (by omega) ?_
            refine AtL.loadE (n := 0) (Rd.skip 1 h) (getD_some ((0, ⟨none, 0, []⟩, ⟨none, 0, []⟩, false) : Int × Vs (List UInt8 × List UInt8) × Vs UInt8 × Bool) (by omega)) rfl tf_agg42 (.inl rfl) rfl rfl ?_
            refine AtL.call tf_body42 (.inl rfl) rfl rfl (rwrite_okP (st := (l.getD k ((0, ⟨none, 0, []⟩, ⟨none, 0, []⟩, false) : Int × Vs (List UInt8 × List UInt8) × Vs UInt8 × Bool)).1) (fs := (l.getD k ((0, ⟨none, 0, []⟩, ⟨none, 0, []⟩, false) : Int × Vs (List UInt8 × List UInt8) × Vs UInt8 × Bool)).2.1.l) (b := (l.getD k ((0, ⟨none, 0, []⟩, ⟨none, 0, []⟩, false) : Int × Vs (List UInt8 × List UInt8) × Vs UInt8 × Bool)).2.2.1.l) (kp := (l.getD k ((0, ⟨none, 0, []⟩, ⟨none, 0, []⟩, false) : Int × Vs (List UInt8 × List UInt8) × Vs UInt8 × Bool)).2.2.2) (Rd.skip 1 (he _ (getD_mem (l := l) (i := k) (d := ((0, ⟨none, 0, []⟩, ⟨none, 0, []⟩, false) : Int × Vs (List UInt8 × List UInt8) × Vs UInt8 × Bool)) (by omega))).1.1) (Rd.skip 1 (he _ (getD_mem (l := l) (i := k) (d := ((0, ⟨none, 0, []⟩, ⟨none, 0, []⟩, false) : Int × Vs (List UInt8 × List UInt8) × Vs UInt8 × Bool)) (by omega))).2) (he _ (getD_mem (l := l) (i := k) (d := ((0, ⟨none, 0, []⟩, ⟨none, 0, []⟩, false) : Int × Vs (List UInt8 × List UInt8) × Vs UInt8 × Bool)) (by omega))).1.2 T10) ?_
            rintro _ _ ⟨⟨A3, C4, l5, s6, o7⟩, hx8, rfl, rfl⟩
            obtain rfl : respL ⟨(l.getD k ((0, ⟨none, 0, []⟩, ⟨none, 0, []⟩, false) : Int × Vs (List UInt8 × List UInt8) × Vs UInt8 × Bool)).1, (l.getD k ((0, ⟨none, 0, []⟩, ⟨none, 0, []⟩, false) : Int × Vs (List UInt8 × List UInt8) × Vs UInt8 × Bool)).2.1.l, (l.getD k ((0, ⟨none, 0, []⟩, ⟨none, 0, []⟩, false) : Int × Vs (List UInt8 × List UInt8) × Vs UInt8 × Bool)).2.2.1.l, (l.getD k ((0, ⟨none, 0, []⟩, ⟨none, 0, []⟩, false) : Int × Vs (List UInt8 × List UInt8) × Vs UInt8 × Bool)).2.2.2⟩ = l5 := hx8.symm
            refine AtL.move (.inl rfl) rfl rfl ?_
            refine AtL.extract (.inl rfl) rfl rfl rfl ?_
            refine AtL.extract (.inl rfl) rfl rfl rfl ?_
            refine AtL.assign (.inl rfl) rfl rfl ?_
            refine AtL.assign (.inl rfl) rfl rfl ?_
            refine AtL.done ?_
            refine At.seq ?_
            refine At.seq ?_
            refine At.region ?_
            refine AtL.move (.inl rfl) rfl rfl ?_
            refine AtL.nei (.inl rfl) rfl rfl rfl ?_
            refine AtL.done ?_
            refine At.cond rfl ?_ ?_
            · intro hc4
              have hc4 : ¬ ((respE ⟨(l.getD k ((0, ⟨none, 0, []⟩, ⟨none, 0, []⟩, false) : Int × Vs (List UInt8 × List UInt8) × Vs UInt8 × Bool)).1, (l.getD k ((0, ⟨none, 0, []⟩, ⟨none, 0, []⟩, false) : Int × Vs (List UInt8 × List UInt8) × Vs UInt8 × Bool)).2.1.l, (l.getD k ((0, ⟨none, 0, []⟩, ⟨none, 0, []⟩, false) : Int × Vs (List UInt8 × List UInt8) × Vs UInt8 × Bool)).2.2.1.l, (l.getD k ((0, ⟨none, 0, []⟩, ⟨none, 0, []⟩, false) : Int × Vs (List UInt8 × List UInt8) × Vs UInt8 × Bool)).2.2.2⟩) = 0) := of_decide_eq_false (bnot_true hc4)
              obtain ⟨he2, hl0⟩ := resp_bad (r := ⟨(l.getD k ((0, ⟨none, 0, []⟩, ⟨none, 0, []⟩, false) : Int × Vs (List UInt8 × List UInt8) × Vs UInt8 × Bool)).1, (l.getD k ((0, ⟨none, 0, []⟩, ⟨none, 0, []⟩, false) : Int × Vs (List UInt8 × List UInt8) × Vs UInt8 × Bool)).2.1.l, (l.getD k ((0, ⟨none, 0, []⟩, ⟨none, 0, []⟩, false) : Int × Vs (List UInt8 × List UInt8) × Vs UInt8 × Bool)).2.2.1.l, (l.getD k ((0, ⟨none, 0, []⟩, ⟨none, 0, []⟩, false) : Int × Vs (List UInt8 × List UInt8) × Vs UInt8 × Bool)).2.2.2⟩) hc4
              refine At.seq ?_
              refine At.region ?_
              refine AtL.move (.inl rfl) rfl rfl ?_
              refine AtL.move (.inl rfl) rfl rfl ?_
              refine AtL.move (.inr ⟨_, _, _, rfl, rfl, rfl, rfl⟩) rfl rfl ?_
              refine AtL.eqi (.inr ⟨_, _, _, rfl, rfl, rfl, rfl⟩) rfl rfl rfl ?_
              refine AtL.pickT (.inl rfl) rfl rfl rfl ?_
              refine AtL.assign (.inl rfl) rfl rfl ?_
              refine AtL.done ?_
              refine At.pick (H' := H) [] 2 rfl rfl ?_
              exact At.ret Tryz.func8 rfl rfl (⟨congrArg Value.bool (by rw [he2]; rfl), rfl⟩)
            · intro hc4
              have hc4 : (respE ⟨(l.getD k ((0, ⟨none, 0, []⟩, ⟨none, 0, []⟩, false) : Int × Vs (List UInt8 × List UInt8) × Vs UInt8 × Bool)).1, (l.getD k ((0, ⟨none, 0, []⟩, ⟨none, 0, []⟩, false) : Int × Vs (List UInt8 × List UInt8) × Vs UInt8 × Bool)).2.1.l, (l.getD k ((0, ⟨none, 0, []⟩, ⟨none, 0, []⟩, false) : Int × Vs (List UInt8 × List UInt8) × Vs UInt8 × Bool)).2.2.1.l, (l.getD k ((0, ⟨none, 0, []⟩, ⟨none, 0, []⟩, false) : Int × Vs (List UInt8 × List UInt8) × Vs UInt8 × Bool)).2.2.2⟩) = 0 := of_decide_eq_true (bnot_false hc4)
              have he0 : respE ⟨(l.getD k ((0, ⟨none, 0, []⟩, ⟨none, 0, []⟩, false) : Int × Vs (List UInt8 × List UInt8) × Vs UInt8 × Bool)).1, (l.getD k ((0, ⟨none, 0, []⟩, ⟨none, 0, []⟩, false) : Int × Vs (List UInt8 × List UInt8) × Vs UInt8 × Bool)).2.1.l, (l.getD k ((0, ⟨none, 0, []⟩, ⟨none, 0, []⟩, false) : Int × Vs (List UInt8 × List UInt8) × Vs UInt8 × Bool)).2.2.1.l, (l.getD k ((0, ⟨none, 0, []⟩, ⟨none, 0, []⟩, false) : Int × Vs (List UInt8 × List UInt8) × Vs UInt8 × Bool)).2.2.2⟩ = 0 := by simpa using hc4
              have hgL := (resp_good he0).1
              have hhl := headR_len he0
              have hokk : okR (rvE (l.getD k ((0, ⟨none, 0, []⟩, ⟨none, 0, []⟩, false) : Int × Vs (List UInt8 × List UInt8) × Vs UInt8 × Bool))) = true := respE_ok he0
              have hLl : (respL ⟨(l.getD k ((0, ⟨none, 0, []⟩, ⟨none, 0, []⟩, false) : Int × Vs (List UInt8 × List UInt8) × Vs UInt8 × Bool)).1, (l.getD k ((0, ⟨none, 0, []⟩, ⟨none, 0, []⟩, false) : Int × Vs (List UInt8 × List UInt8) × Vs UInt8 × Bool)).2.1.l, (l.getD k ((0, ⟨none, 0, []⟩, ⟨none, 0, []⟩, false) : Int × Vs (List UInt8 × List UInt8) × Vs UInt8 × Bool)).2.2.1.l, (l.getD k ((0, ⟨none, 0, []⟩, ⟨none, 0, []⟩, false) : Int × Vs (List UInt8 × List UInt8) × Vs UInt8 × Bool)).2.2.2⟩).length ≤ 6600 := by rw [hgL, respB, List.length_append]; dsimp only at hhl ⊢; omega
              refine At.skip ?_
              refine At.region ?_
              refine AtL.move (.inl rfl) rfl rfl ?_
              refine AtL.move (.inl rfl) rfl rfl ?_
              refine AtL.append (l := y.l) (news := respL ⟨(l.getD k ((0, ⟨none, 0, []⟩, ⟨none, 0, []⟩, false) : Int × Vs (List UInt8 × List UInt8) × Vs UInt8 × Bool)).1, (l.getD k ((0, ⟨none, 0, []⟩, ⟨none, 0, []⟩, false) : Int × Vs (List UInt8 × List UInt8) × Vs UInt8 × Bool)).2.1.l, (l.getD k ((0, ⟨none, 0, []⟩, ⟨none, 0, []⟩, false) : Int × Vs (List UInt8 × List UInt8) × Vs UInt8 × Bool)).2.2.1.l, (l.getD k ((0, ⟨none, 0, []⟩, ⟨none, 0, []⟩, false) : Int × Vs (List UInt8 × List UInt8) × Vs UInt8 × Bool)).2.2.2⟩) 1 tf_el22 rfl y.own (o7.rd (i := 0) rfl) (by first | omega | (simp only [List.length_append, List.length_cons, List.length_nil]; omega) | (simp; done) | (simp; omega)) (.inl rfl) rfl rfl rfl ?_
              intro A9 C10 s11 o12
              refine AtL.assign (.inl rfl) rfl rfl ?_
              refine AtL.done ?_
              refine At.inBlock ?_
              refine At.region ?_
              refine AtL.move (.inl rfl) rfl rfl ?_
              refine AtL.add (z := (k : Int) + 1) (.inl rfl) rfl rfl rfl (w64 (by omega) (by omega)) ?_
              refine AtL.assign (.inl rfl) rfl rfl ?_
              refine AtL.done ?_
              refine At.pick (H' := s11 :: H) [1] 2 rfl rfl ?_
              refine ihL1 (k + 1) (⟨A9, C10, y.l ++ (respL ⟨(l.getD k ((0, ⟨none, 0, []⟩, ⟨none, 0, []⟩, false) : Int × Vs (List UInt8 × List UInt8) × Vs UInt8 × Bool)).1, (l.getD k ((0, ⟨none, 0, []⟩, ⟨none, 0, []⟩, false) : Int × Vs (List UInt8 × List UInt8) × Vs UInt8 × Bool)).2.1.l, (l.getD k ((0, ⟨none, 0, []⟩, ⟨none, 0, []⟩, false) : Int × Vs (List UInt8 × List UInt8) × Vs UInt8 × Bool)).2.2.1.l, (l.getD k ((0, ⟨none, 0, []⟩, ⟨none, 0, []⟩, false) : Int × Vs (List UInt8 × List UInt8) × Vs UInt8 × Bool)).2.2.2⟩), s11, o12⟩) (⟨by omega, by dsimp only; rw [hy, hgL, catR_snoc l k (by omega)]; rfl, fun j hj => by rcases Nat.lt_or_ge j k with h1 | h1; exact hoks j h1; obtain rfl : j = k := (by omega); exact hokk, by dsimp only; rw [List.length_append]; omega⟩) (by omega) _ ?_
              exact ⟨rfl, rfl, rfl, (by first | rfl | exact slLen (by simp []) | exact intEq (by omega) | exact intEq (by simp []) | exact slLen (by simp []; omega)), (by first | rfl | exact slLen (by simp []) | exact intEq (by omega) | exact intEq (by simp []) | exact slLen (by simp []; omega)), trivial⟩
      · intro hc2
        have hc2 : ¬ ((k : Int) < (l.length : Int)) := of_decide_eq_false hc2
        have hkl : k = l.length := by omega
        rw [List.take_of_length_le (by omega)] at hy
        have hokA : ∀ j, j < l.length → okR (rvE (l.getD j ((0, ⟨none, 0, []⟩, ⟨none, 0, []⟩, false) : Int × Vs (List UInt8 × List UInt8) × Vs UInt8 × Bool))) = true := fun j hj => hoks j (by omega)
        refine At.exit rfl ?_
        refine At.seq ?_
        refine At.region ?_
        refine AtL.move (.inl rfl) rfl rfl ?_
        refine AtL.move (.inl rfl) rfl rfl ?_
        refine AtL.append (l := y.l) (news := more) 0 tf_el22 rfl y.own (Rd.skip 1 hm) (by first | omega | (simp only [List.length_append, List.length_cons, List.length_nil]; omega) | (simp; done) | (simp; omega)) (.inl rfl) rfl rfl rfl ?_
        intro A13 C14 s15 o16
        refine AtL.assign (.inl rfl) rfl rfl ?_
        refine AtL.done ?_
        have hBl : (y.l ++ more).length ≤ 40200 := by rw [List.length_append]; omega
        refine At.seq ?_
        refine At.region ?_
        refine AtL.assign (.inl rfl) rfl rfl ?_
        refine AtL.done ?_
        refine At.seq ?_
        refine At.seq ?_
        refine At.region ?_
        refine AtL.assign (.inl rfl) rfl rfl ?_
        refine AtL.done ?_
        refine At.block ?_
        refine At.loop2 (fun (k : Nat) (p : Nat) => [(0, .slice A l.length C), (1, .slice Am more.length Cm), (5, .bool true), (6, .slice A13 (y.l ++ more).length C14), (10, .int .i64 (p : Int)), (11, .int .i64 (k : Int))]) (fun (k : Nat) (p : Nat) => s15 :: H) (fun (k : Nat) (p : Nat) => k ≤ l.length ∧ p = (catR (l.take k)).length) (fun (k : Nat) (p : Nat) => l.length - k) 0 0 (⟨Nat.zero_le _, rfl⟩) ⟨rfl, rfl, rfl, rfl, rfl, rfl, trivial⟩ rfl ?_
        rintro k p ⟨hk2, hp⟩ ihL2
        refine At.seq ?_
        refine At.seq ?_
        refine At.region ?_
        refine AtL.move (.inl rfl) rfl rfl ?_
        refine AtL.move (.inl rfl) rfl rfl ?_
        refine AtL.lenL Tryz.underlying53 (.inl rfl) rfl rfl ?_
        refine AtL.lss (.inl rfl) rfl rfl rfl ?_
        refine AtL.done ?_
        refine At.cond rfl ?_ ?_
        · intro hc5
          have hc5 : (k : Int) < (l.length : Int) := of_decide_eq_true hc5
          obtain ⟨hrd, hpl⟩ := rb_at (B := y.l ++ more) (by rw [hy]) (k := k) (p := p) (by omega) hokA hp
          have hpos := respB_pos (rvE (l.getD k ((0, ⟨none, 0, []⟩, ⟨none, 0, []⟩, false) : Int × Vs (List UInt8 × List UInt8) × Vs UInt8 × Bool)))
          have hek := he _ (getD_mem (l := l) (i := k) (d := ((0, ⟨none, 0, []⟩, ⟨none, 0, []⟩, false) : Int × Vs (List UInt8 × List UInt8) × Vs UInt8 × Bool)) (by omega))
          refine At.skip ?_
          refine At.seq ?_
          refine At.block ?_
          refine At.seq ?_
          refine At.region ?_
          refine AtL.move (.inl rfl) rfl rfl ?_
          refine AtL.move (.inl rfl) rfl rfl ?_
          refine AtL.call tf_body39 (.inl rfl) rfl rfl (read_kn hrd (o16.rd (i := 0) rfl) (by omega) T ET T10) ?_
          rintro _ _ ⟨⟨A17, C18, l19, s20, o21⟩, ⟨A22, C23, l24, s25, o26⟩, hx27, hx28, rfl, rfl⟩
          obtain rfl : (l.getD k ((0, ⟨none, 0, []⟩, ⟨none, 0, []⟩, false) : Int × Vs (List UInt8 × List UInt8) × Vs UInt8 × Bool)).2.1.l = l19 := hx27.symm
          obtain rfl : (l.getD k ((0, ⟨none, 0, []⟩, ⟨none, 0, []⟩, false) : Int × Vs (List UInt8 × List UInt8) × Vs UInt8 × Bool)).2.2.1.l = l24 := hx28.symm
          refine AtL.move (.inl rfl) rfl rfl ?_
          refine AtL.extract (.inl rfl) rfl rfl rfl ?_
          refine AtL.extract (.inl rfl) rfl rfl rfl ?_
          refine AtL.extract (.inl rfl) rfl rfl rfl ?_
          refine AtL.alloc tf_zero42 (cs := #[.int .i64 0, .slice none 0 0, .slice none 0 0, .bool false]) rfl (.inl rfl) rfl ?_
          intro b29
          refine AtL.store (H' := [(b29, .cells #[.int .i64 ((l.getD k ((0, ⟨none, 0, []⟩, ⟨none, 0, []⟩, false) : Int × Vs (List UInt8 × List UInt8) × Vs UInt8 × Bool)).1), .slice A17 ((l.getD k ((0, ⟨none, 0, []⟩, ⟨none, 0, []⟩, false) : Int × Vs (List UInt8 × List UInt8) × Vs UInt8 × Bool)).2.1.l).length C18, .slice A22 ((l.getD k ((0, ⟨none, 0, []⟩, ⟨none, 0, []⟩, false) : Int × Vs (List UInt8 × List UInt8) × Vs UInt8 × Bool)).2.2.1.l).length C23, .bool ((l.getD k ((0, ⟨none, 0, []⟩, ⟨none, 0, []⟩, false) : Int × Vs (List UInt8 × List UInt8) × Vs UInt8 × Bool)).2.2.2)] 42 (0, 0))] :: s20 :: s25 :: s15 :: H) 0 0 tf_sz42 (.inl rfl) rfl rfl rfl rfl rfl rfl rfl rfl rfl ?_
          refine AtL.assign (.inl rfl) rfl rfl ?_
          refine AtL.assign (.inl rfl) rfl rfl ?_
          refine AtL.done ?_
          refine At.seq ?_
          refine At.seq ?_
          refine At.draw (es := []) (pv := [(0, .int .i64 0), (1, .bool false), (2, .bool false), (3, .agg #[.int .i64 ((l.getD k ((0, ⟨none, 0, []⟩, ⟨none, 0, []⟩, false) : Int × Vs (List UInt8 × List UInt8) × Vs UInt8 × Bool)).1), .slice A17 ((l.getD k ((0, ⟨none, 0, []⟩, ⟨none, 0, []⟩, false) : Int × Vs (List UInt8 × List UInt8) × Vs UInt8 × Bool)).2.1.l).length C18, .slice A22 ((l.getD k ((0, ⟨none, 0, []⟩, ⟨none, 0, []⟩, false) : Int × Vs (List UInt8 × List UInt8) × Vs UInt8 × Bool)).2.2.1.l).length C23, .bool ((l.getD k ((0, ⟨none, 0, []⟩, ⟨none, 0, []⟩, false) : Int × Vs (List UInt8 × List UInt8) × Vs UInt8 × Bool)).2.2.2)]), (4, .slice A l.length C), (5, .int .i64 (k : Int)), (6, .pointer (some (eaddr A (k * tyResp.sz)))), (7, tyResp.val (l.getD k ((0, ⟨none, 0, []⟩, ⟨none, 0, []⟩, false) : Int × Vs (List UInt8 × List UInt8) × Vs UInt8 × Bool))), (8, .bool (decide ((⟨(l.getD k ((0, ⟨none, 0, []⟩, ⟨none, 0, []⟩, false) : Int × Vs (List UInt8 × List UInt8) × Vs UInt8 × Bool)).1, (l.getD k ((0, ⟨none, 0, []⟩, ⟨none, 0, []⟩, false) : Int × Vs (List UInt8 × List UInt8) × Vs UInt8 × Bool)).2.1.l, (l.getD k ((0, ⟨none, 0, []⟩, ⟨none, 0, []⟩, false) : Int × Vs (List UInt8 × List UInt8) × Vs UInt8 × Bool)).2.2.1.l, (l.getD k ((0, ⟨none, 0, []⟩, ⟨none, 0, []⟩, false) : Int × Vs (List UInt8 × List UInt8) × Vs UInt8 × Bool)).2.2.2⟩ : RespV) = ⟨(l.getD k ((0, ⟨none, 0, []⟩, ⟨none, 0, []⟩, false) : Int × Vs (List UInt8 × List UInt8) × Vs UInt8 × Bool)).1, (l.getD k ((0, ⟨none, 0, []⟩, ⟨none, 0, []⟩, false) : Int × Vs (List UInt8 × List UInt8) × Vs UInt8 × Bool)).2.1.l, (l.getD k ((0, ⟨none, 0, []⟩, ⟨none, 0, []⟩, false) : Int × Vs (List UInt8 × List UInt8) × Vs UInt8 × Bool)).2.2.1.l, (l.getD k ((0, ⟨none, 0, []⟩, ⟨none, 0, []⟩, false) : Int × Vs (List UInt8 × List UInt8) × Vs UInt8 × Bool)).2.2.2⟩))), (9, .bool (!(decide ((⟨(l.getD k ((0, ⟨none, 0, []⟩, ⟨none, 0, []⟩, false) : Int × Vs (List UInt8 × List UInt8) × Vs UInt8 × Bool)).1, (l.getD k ((0, ⟨none, 0, []⟩, ⟨none, 0, []⟩, false) : Int × Vs (List UInt8 × List UInt8) × Vs UInt8 × Bool)).2.1.l, (l.getD k ((0, ⟨none, 0, []⟩, ⟨none, 0, []⟩, false) : Int × Vs (List UInt8 × List UInt8) × Vs UInt8 × Bool)).2.2.1.l, (l.getD k ((0, ⟨none, 0, []⟩, ⟨none, 0, []⟩, false) : Int × Vs (List UInt8 × List UInt8) × Vs UInt8 × Bool)).2.2.2⟩ : RespV) = ⟨(l.getD k ((0, ⟨none, 0, []⟩, ⟨none, 0, []⟩, false) : Int × Vs (List UInt8 × List UInt8) × Vs UInt8 × Bool)).1, (l.getD k ((0, ⟨none, 0, []⟩, ⟨none, 0, []⟩, false) : Int × Vs (List UInt8 × List UInt8) × Vs UInt8 × Bool)).2.1.l, (l.getD k ((0, ⟨none, 0, []⟩, ⟨none, 0, []⟩, false) : Int × Vs (List UInt8 × List UInt8) × Vs UInt8 × Bool)).2.2.1.l, (l.getD k ((0, ⟨none, 0, []⟩, ⟨none, 0, []⟩, false) : Int × Vs (List UInt8 × List UInt8) × Vs UInt8 × Bool)).2.2.2⟩)))), (10, .bool (!(decide ((⟨(l.getD k ((0, ⟨none, 0, []⟩, ⟨none, 0, []⟩, false) : Int × Vs (List UInt8 × List UInt8) × Vs UInt8 × Bool)).1, (l.getD k ((0, ⟨none, 0, []⟩, ⟨none, 0, []⟩, false) : Int × Vs (List UInt8 × List UInt8) × Vs UInt8 × Bool)).2.1.l, (l.getD k ((0, ⟨none, 0, []⟩, ⟨none, 0, []⟩, false) : Int × Vs (List UInt8 × List UInt8) × Vs UInt8 × Bool)).2.2.1.l, (l.getD k ((0, ⟨none, 0, []⟩, ⟨none, 0, []⟩, false) : Int × Vs (List UInt8 × List UInt8) × Vs UInt8 × Bool)).2.2.2⟩ : RespV) = ⟨(l.getD k ((0, ⟨none, 0, []⟩, ⟨none, 0, []⟩, false) : Int × Vs (List UInt8 × List UInt8) × Vs UInt8 × Bool)).1, (l.getD k ((0, ⟨none, 0, []⟩, ⟨none, 0, []⟩, false) : Int × Vs (List UInt8 × List UInt8) × Vs UInt8 × Bool)).2.1.l, (l.getD k ((0, ⟨none, 0, []⟩, ⟨none, 0, []⟩, false) : Int × Vs (List UInt8 × List UInt8) × Vs UInt8 × Bool)).2.2.1.l, (l.getD k ((0, ⟨none, 0, []⟩, ⟨none, 0, []⟩, false) : Int × Vs (List UInt8 × List UInt8) × Vs UInt8 × Bool)).2.2.2⟩)))), (11, .bool false), (12, .int .i64 ((p + (respB (rvE (l.getD k ((0, ⟨none, 0, []⟩, ⟨none, 0, []⟩, false) : Int × Vs (List UInt8 × List UInt8) × Vs UInt8 × Bool)))).length : Nat) : Int)), (13, .int .i64 (p : Int)), (14, .bool (decide (((p + (respB (rvE (l.getD k ((0, ⟨none, 0, []⟩, ⟨none, 0, []⟩, false) : Int × Vs (List UInt8 × List UInt8) × Vs UInt8 × Bool)))).length : Nat) : Int) ≤ (p : Int)))), (15, .bool (decide (((p + (respB (rvE (l.getD k ((0, ⟨none, 0, []⟩, ⟨none, 0, []⟩, false) : Int × Vs (List UInt8 × List UInt8) × Vs UInt8 × Bool)))).length : Nat) : Int) ≤ (p : Int)))), (16, .bool false), (17, .int .i64 ((p + (respB (rvE (l.getD k ((0, ⟨none, 0, []⟩, ⟨none, 0, []⟩, false) : Int × Vs (List UInt8 × List UInt8) × Vs UInt8 × Bool)))).length : Nat) : Int)), (18, .slice A13 (y.l ++ more).length C14), (19, .int .i64 ((y.l ++ more).length : Int)), (20, .bool false), (21, .bool false)]) tf_mixed (by kernel_rfl) (by kernel_rfl) (by kernel_rfl) ?_
          refine ⟨⟨.inr ⟨_, rfl, rfl, .inl ⟨rfl, Do.move rfl⟩⟩, .inr ⟨_, rfl, rfl, .inl ⟨rfl, Do.asBool (Do.nei rfl rfl) (by decide)⟩⟩, .inr ⟨_, rfl, rfl, .inl ⟨rfl, Do.move rfl⟩⟩, .inr ⟨_, rfl, rfl, .inl ⟨⟨_, _, _, rfl, rfl, rfl, rfl⟩, Do.loadN (cs := [.int .i64 ((l.getD k ((0, ⟨none, 0, []⟩, ⟨none, 0, []⟩, false) : Int × Vs (List UInt8 × List UInt8) × Vs UInt8 × Bool)).1), .slice A17 ((l.getD k ((0, ⟨none, 0, []⟩, ⟨none, 0, []⟩, false) : Int × Vs (List UInt8 × List UInt8) × Vs UInt8 × Bool)).2.1.l).length C18, .slice A22 ((l.getD k ((0, ⟨none, 0, []⟩, ⟨none, 0, []⟩, false) : Int × Vs (List UInt8 × List UInt8) × Vs UInt8 × Bool)).2.2.1.l).length C23, .bool ((l.getD k ((0, ⟨none, 0, []⟩, ⟨none, 0, []⟩, false) : Int × Vs (List UInt8 × List UInt8) × Vs UInt8 × Bool)).2.2.2)]) tf_agg42 rfl rfl (cellsOwn 0 0 0 rfl rfl rfl)⟩⟩, .inr ⟨_, rfl, rfl, .inl ⟨⟨_, _, _, rfl, rfl, rfl, rfl⟩, Do.move rfl⟩⟩, .inr ⟨_, rfl, rfl, .inl ⟨⟨_, _, _, rfl, rfl, rfl, rfl⟩, Do.move rfl⟩⟩, .inr ⟨_, rfl, rfl, .inl ⟨⟨_, _, _, rfl, rfl, rfl, rfl⟩, Do.indexL k (Rd.skip 4 h) Tryz.underlying53 tf_sz42 rfl rfl rfl (by omega)⟩⟩, .inr ⟨_, rfl, rfl, .inl ⟨⟨_, _, _, rfl, rfl, rfl, rfl⟩, Do.loadE (n := 0) (Rd.skip 4 h) (getD_some ((0, ⟨none, 0, []⟩, ⟨none, 0, []⟩, false) : Int × Vs (List UInt8 × List UInt8) × Vs UInt8 × Bool) (by omega)) rfl tf_agg42 rfl⟩⟩, .inr ⟨_, rfl, rfl, .inl ⟨⟨_, _, _, rfl, rfl, rfl, rfl⟩, Do.call tf_body41 rfl (sameresp_ok (st := (l.getD k ((0, ⟨none, 0, []⟩, ⟨none, 0, []⟩, false) : Int × Vs (List UInt8 × List UInt8) × Vs UInt8 × Bool)).1) (fs := (l.getD k ((0, ⟨none, 0, []⟩, ⟨none, 0, []⟩, false) : Int × Vs (List UInt8 × List UInt8) × Vs UInt8 × Bool)).2.1.l) (b := (l.getD k ((0, ⟨none, 0, []⟩, ⟨none, 0, []⟩, false) : Int × Vs (List UInt8 × List UInt8) × Vs UInt8 × Bool)).2.2.1.l) (kp := (l.getD k ((0, ⟨none, 0, []⟩, ⟨none, 0, []⟩, false) : Int × Vs (List UInt8 × List UInt8) × Vs UInt8 × Bool)).2.2.2) (st2 := (l.getD k ((0, ⟨none, 0, []⟩, ⟨none, 0, []⟩, false) : Int × Vs (List UInt8 × List UInt8) × Vs UInt8 × Bool)).1) (gs := (l.getD k ((0, ⟨none, 0, []⟩, ⟨none, 0, []⟩, false) : Int × Vs (List UInt8 × List UInt8) × Vs UInt8 × Bool)).2.1.l) (c := (l.getD k ((0, ⟨none, 0, []⟩, ⟨none, 0, []⟩, false) : Int × Vs (List UInt8 × List UInt8) × Vs UInt8 × Bool)).2.2.1.l) (kp2 := (l.getD k ((0, ⟨none, 0, []⟩, ⟨none, 0, []⟩, false) : Int × Vs (List UInt8 × List UInt8) × Vs UInt8 × Bool)).2.2.2) (o21.rd (i := 1) rfl) (o26.rd (i := 2) rfl) (Rd.skip 4 (he _ (getD_mem (l := l) (i := k) (d := ((0, ⟨none, 0, []⟩, ⟨none, 0, []⟩, false) : Int × Vs (List UInt8 × List UInt8) × Vs UInt8 × Bool)) (by omega))).1.1) (Rd.skip 4 (he _ (getD_mem (l := l) (i := k) (d := ((0, ⟨none, 0, []⟩, ⟨none, 0, []⟩, false) : Int × Vs (List UInt8 × List UInt8) × Vs UInt8 × Bool)) (by omega))).2))⟩⟩, .inr ⟨_, rfl, rfl, .inl ⟨⟨_, _, _, rfl, rfl, rfl, rfl⟩, Do.not rfl⟩⟩, .inr ⟨_, rfl, rfl, .inl ⟨rfl, Do.pickF rfl rfl⟩⟩, .inr ⟨_, rfl, rfl, .inl ⟨rfl, Do.asBool (Do.move rfl) (same_rv (l.getD k ((0, ⟨none, 0, []⟩, ⟨none, 0, []⟩, false) : Int × Vs (List UInt8 × List UInt8) × Vs UInt8 × Bool)))⟩⟩, .inr ⟨_, rfl, rfl, .inl ⟨⟨_, _, _, rfl, rfl, rfl, rfl⟩, Do.move rfl⟩⟩, .inr ⟨_, rfl, rfl, .inl ⟨⟨_, _, _, rfl, rfl, rfl, rfl⟩, Do.move rfl⟩⟩, .inr ⟨_, rfl, rfl, .inl ⟨⟨_, _, _, rfl, rfl, rfl, rfl⟩, Do.leq rfl rfl⟩⟩, .inr ⟨_, rfl, rfl, .inl ⟨rfl, Do.pickF rfl rfl⟩⟩, .inr ⟨_, rfl, rfl, .inl ⟨rfl, Do.asBool (Do.move rfl) (decide_eq_false (by omega))⟩⟩, .inr ⟨_, rfl, rfl, .inl ⟨⟨_, _, _, rfl, rfl, rfl, rfl⟩, Do.move rfl⟩⟩, .inr ⟨_, rfl, rfl, .inl ⟨⟨_, _, _, rfl, rfl, rfl, rfl⟩, Do.move rfl⟩⟩, .inr ⟨_, rfl, rfl, .inl ⟨⟨_, _, _, rfl, rfl, rfl, rfl⟩, Do.lenL Tryz.underlying22 rfl⟩⟩, .inr ⟨_, rfl, rfl, .inl ⟨⟨_, _, _, rfl, rfl, rfl, rfl⟩, Do.asBool (Do.gtr rfl rfl) (decide_eq_false (by omega))⟩⟩, .inr ⟨_, rfl, rfl, .inl ⟨rfl, Do.pickF rfl rfl⟩⟩, trivial⟩, by kernel_rfl, ?_⟩
          refine At.mono (E' := [(0, .slice A l.length C), (1, .slice Am more.length Cm), (5, .bool true), (6, .slice A13 (y.l ++ more).length C14), (11, .int .i64 (k : Int)), (13, .int .i64 ((p + (respB (rvE (l.getD k ((0, ⟨none, 0, []⟩, ⟨none, 0, []⟩, false) : Int × Vs (List UInt8 × List UInt8) × Vs UInt8 × Bool)))).length : Nat) : Int)), (101, .bool false)]) ⟨rfl, rfl, rfl, rfl, rfl, rfl, rfl, trivial⟩ ?_
          refine At.condF rfl ?_
          refine At.skip ?_
          refine At.region ?_
          refine AtL.move (.inl rfl) rfl rfl ?_
          refine AtL.assign (.inl rfl) rfl rfl ?_
          refine AtL.done ?_
          refine At.inBlock ?_
          refine At.region ?_
          refine AtL.move (.inl rfl) rfl rfl ?_
          refine AtL.add (z := (k : Int) + 1) (.inl rfl) rfl rfl rfl (w64 (by omega) (by omega)) ?_
          refine AtL.assign (.inl rfl) rfl rfl ?_
          refine AtL.done ?_
          refine At.pick (H' := s15 :: H) [3] 4 rfl rfl ?_
          refine ihL2 (k + 1) (p + (respB (rvE (l.getD k ((0, ⟨none, 0, []⟩, ⟨none, 0, []⟩, false) : Int × Vs (List UInt8 × List UInt8) × Vs UInt8 × Bool)))).length : Nat) (⟨by omega, by rw [catR_snoc l k (by omega), List.length_append, hp]⟩) (by omega) _ ?_
          exact ⟨rfl, rfl, rfl, rfl, (by first | rfl | exact slLen (by simp []) | exact intEq (by omega) | exact intEq (by simp []) | exact slLen (by simp []; omega)), (by first | rfl | exact slLen (by simp []) | exact intEq (by omega) | exact intEq (by simp []) | exact slLen (by simp []; omega)), trivial⟩
        · intro hc5
          have hc5 : ¬ ((k : Int) < (l.length : Int)) := of_decide_eq_false hc5
          refine At.exit rfl ?_
          refine At.seq ?_
          refine At.region ?_
          refine AtL.move (.inl rfl) rfl rfl ?_
          refine AtL.move (.inl rfl) rfl rfl ?_
          refine AtL.move (.inr ⟨_, _, _, rfl, rfl, rfl, rfl⟩) rfl rfl ?_
          refine AtL.move (.inr ⟨_, _, _, rfl, rfl, rfl, rfl⟩) rfl rfl ?_
          refine AtL.lenL Tryz.underlying22 (.inr ⟨_, _, _, rfl, rfl, rfl, rfl⟩) rfl rfl ?_
          refine AtL.move (.inr ⟨_, _, _, rfl, rfl, rfl, rfl⟩) rfl rfl ?_
          refine AtL.lenL Tryz.underlying22 (.inr ⟨_, _, _, rfl, rfl, rfl, rfl⟩) rfl rfl ?_
          refine AtL.sub (z := ((y.l ++ more).length : Int) - (more.length : Int)) (.inr ⟨_, _, _, rfl, rfl, rfl, rfl⟩) rfl rfl rfl (w64 (by omega) (by omega)) ?_
          refine AtL.eqi (.inr ⟨_, _, _, rfl, rfl, rfl, rfl⟩) rfl rfl rfl ?_
          refine AtL.pickT (.inl rfl) rfl rfl rfl ?_
          refine AtL.assign (.inl rfl) rfl rfl ?_
          refine AtL.done ?_
          refine At.pick (H' := H) [] 1 rfl rfl ?_
          exact At.ret Tryz.func8 rfl rfl (⟨congrArg Value.bool (decide_eq_true (by rw [List.take_of_length_le (by omega), ← hy] at hp; rw [List.length_append]; omega)), rfl⟩)

end Go.Proofs.YtlfkoimkojbghaaGreatDoor
