/- DohYoung: the walk. -/
import Derived.Test.YtlkdmbpbjhjkfaaDoorY4
import Derived.Test.YtlkdmbpbjhjkfaaDoorE9
namespace Go.Proofs.YtlkdmbpbjhjkfaaDoor
set_option linter.unusedVariables false
set_option linter.unusedSimpArgs false
set_option maxRecDepth 100000

set_option maxHeartbeats 400000 in
theorem dohyoung_ok {w0 : World} {base : Nat} {H : List Seg} {id flags : Int} {Aq Aa An Ar : Option Addr} {Cq Ca Cn Cr : Nat} {qs : List (List UInt8 × Int × Int)} {an ns ar : List (List UInt8 × Int × Int × Int × List UInt8)} (hq : Rd tyQn w0 base H Aq Cq qs) (ha : Rd tyRec w0 base H Aa Ca an) (hn : Rd tyRec w0 base H An Cn ns) (hr : Rd tyRec w0 base H Ar Cr ar) (hB : qs.length ≤ 140737488355328 ∧ an.length ≤ 140737488355328 ∧ ns.length ≤ 140737488355328 ∧ ar.length ≤ 140737488355328) (T : Tabs w0 base) :
    SCalls Tryd.prog 4 [.agg #[.int .i64 id, .int .i64 flags, .slice Aq qs.length Cq, .slice Aa an.length Ca, .slice An ns.length Cn, .slice Ar ar.length Cr]] w0 base (H) (fun v H' => v = .bool true ∧ H' = H) := by
  have hleq := hq.le
  have hcapq := hq.cap
  have hlea := ha.le
  have hcapa := ha.cap
  have hlen := hn.le
  have hcapn := hn.cap
  have hler := hr.le
  have hcapr := hr.cap
  refine SCalls.of_walk (n := 47) Tryd.func4 rfl rfl rfl fun cs => ?_
  refine At.seq ?_
  refine At.region ?_
  refine AtL.box (cs := #[.int .i64 id, .int .i64 flags, .slice Aq qs.length Cq, .slice Aa an.length Ca, .slice An ns.length Cn, .slice Ar ar.length Cr]) rfl (.inl rfl) rfl rfl ?_
  intro b1
  refine AtL.assign (.inl rfl) rfl rfl ?_
  refine AtL.done ?_
  refine At.seq ?_
  refine At.region ?_
  refine AtL.call tf_body5 (.inl rfl) rfl rfl (awake16_ok T) ?_
  rintro _ _ ⟨rfl, rfl⟩
  refine AtL.assign (.inl rfl) rfl rfl ?_
  refine AtL.done ?_
  refine At.seq ?_
  refine At.seq ?_
  refine At.region ?_
  refine AtL.loadN (cs := [.int .i64 id, .int .i64 flags, .slice Aq qs.length Cq, .slice Aa an.length Ca, .slice An ns.length Cn, .slice Ar ar.length Cr]) tf_agg39 (.inl rfl) rfl rfl rfl (cellsOwn 0 0 0 rfl rfl rfl) ?_
  refine AtL.call tf_body11 (.inl rfl) rfl rfl (bigmsg_ok (id := id) (flags := flags) (qs := qs) (an := an) (ns := ns) (ar := ar) (Rd.skip 1 hq) (Rd.skip 1 ha) (Rd.skip 1 hn) (Rd.skip 1 hr) hB 60 3000) ?_
  rintro _ _ ⟨bm2, rfl, hbm3, rfl⟩
  refine AtL.done ?_
  refine At.cond rfl ?_ ?_
  · intro hc1
    have hc1 : bm2 = true := hc1
    refine At.seq ?_
    refine At.region ?_
    refine AtL.move (.inl rfl) rfl rfl ?_
    refine AtL.assign (.inl rfl) rfl rfl ?_
    refine AtL.done ?_
    refine At.pick (H' := H) [] 1 rfl rfl ?_
    exact At.ret Tryd.func4 rfl rfl (⟨rfl, rfl⟩)
  · intro hc1
    have hc1 : bm2 = false := hc1
    obtain ⟨hlen, _, hnd⟩ := hbm3 (by first | assumption | simpa using hc1)
    have hns : ∀ x ∈ ns, x.2.2.2.2.length ≤ 140737488355328 := fun x hx => by have := hnd x hx; omega
    refine At.skip ?_
    refine At.seq ?_
    refine At.region ?_
    refine AtL.loadN (cs := [.int .i64 id, .int .i64 flags, .slice Aq qs.length Cq, .slice Aa an.length Ca, .slice An ns.length Cn, .slice Ar ar.length Cr]) tf_agg39 (.inl rfl) rfl rfl rfl (cellsOwn 0 0 0 rfl rfl rfl) ?_
    refine AtL.call tf_body12 (.inl rfl) rfl rfl (age_ok (id := id) (flags := flags) (qs := qs) (an := an) (ns := ns) (ar := ar) (Rd.skip 1 hq) (Rd.skip 1 ha) (Rd.skip 1 hn) (Rd.skip 1 hr) hns (by omega)) ?_
    rintro _ _ ⟨za4, rfl, hza5, rfl⟩
    have hza5p := hza5.pos
    have hza5z := hza5.zero
    refine AtL.assign (.inl rfl) rfl rfl ?_
    refine AtL.done ?_
    refine At.seq ?_
    refine At.seq ?_
    refine At.region ?_
    refine AtL.move (.inl rfl) rfl rfl ?_
    refine AtL.lss (.inl rfl) rfl rfl rfl ?_
    refine AtL.move (.inl rfl) rfl rfl ?_
    refine AtL.join 15 (E' := [(29, .bool (decide (((za4 : Int) < 0) ∨ (((¬ (((codeF flags) : Int) = 0)) ∧ (¬ (((codeF flags) : Int) = 3))) ∧ (¬ ((za4 : Int) = 0)))))), (1, .pointer (some ⟨b1, 0, none⟩)), (3, .bool true), (4, .int .i64 za4)]) (H' := [(b1, .cells #[.int .i64 id, .int .i64 flags, .slice Aq qs.length Cq, .slice Aa an.length Ca, .slice An ns.length Cn, .slice Ar ar.length Cr] 39 (0, 0))] :: H) (fun J => ?_) ?_
    · refine AtL.split (t := 14) rfl ?_ ?_
      · intro hs14
        have hs14 : (za4 : Int) < 0 := of_decide_eq_true hs14
        refine AtL.skipped rfl rfl rfl rfl rfl rfl ?_
        refine AtL.skipped rfl rfl rfl rfl rfl rfl ?_
        refine AtL.skipped rfl rfl rfl rfl rfl rfl ?_
        refine AtL.skipped rfl rfl rfl rfl rfl rfl ?_
        refine AtL.skipped rfl rfl rfl rfl rfl rfl ?_
        refine AtL.skippedU rfl rfl rfl rfl rfl ?_
        refine AtL.skippedU rfl rfl rfl rfl rfl ?_
        refine AtL.skippedU rfl rfl rfl rfl rfl ?_
        refine AtL.skippedU rfl rfl rfl rfl rfl ?_
        refine AtL.skipped rfl rfl rfl rfl rfl rfl ?_
        refine AtL.skipped rfl rfl rfl rfl rfl rfl ?_
        refine AtL.skippedU rfl rfl rfl rfl rfl ?_
        refine AtL.skippedU rfl rfl rfl rfl rfl ?_
        refine AtL.skipped rfl rfl rfl rfl rfl rfl ?_
        refine AtL.pickT (.inl rfl) rfl rfl rfl ?_
        exact J _ (by exact ⟨(boolIs (by clear J; first | (simp [hs14]; done) | (simp_all; done) | grind)), rfl, rfl, rfl, trivial⟩)
      · intro hs14
        have hs14 : ¬ ((za4 : Int) < 0) := of_decide_eq_false hs14
        refine AtL.fieldAddrB tf_fo39_1 (.inr ⟨_, _, _, rfl, rfl, rfl, rfl⟩) rfl rfl rfl ?_
        refine AtL.load tf_flat3 (.inr ⟨_, _, _, rfl, rfl, rfl, rfl⟩) rfl rfl (Cell.own 0 0 rfl rfl rfl) ?_
        refine AtL.band (z := (codeF flags)) (.inr ⟨_, _, _, rfl, rfl, rfl, rfl⟩) rfl rfl rfl rfl ?_
        refine AtL.nei (.inr ⟨_, _, _, rfl, rfl, rfl, rfl⟩) rfl rfl rfl ?_
        refine AtL.move (.inr ⟨_, _, _, rfl, rfl, rfl, rfl⟩) rfl rfl ?_
        refine AtL.join 5 (E' := [(24, .bool (decide ((¬ (((codeF flags) : Int) = 0)) ∧ (¬ (((codeF flags) : Int) = 3))))), (1, .pointer (some ⟨b1, 0, none⟩)), (3, .bool true), (4, .int .i64 za4), (14, .bool false)]) (H' := [(b1, .cells #[.int .i64 id, .int .i64 flags, .slice Aq qs.length Cq, .slice Aa an.length Ca, .slice An ns.length Cn, .slice Ar ar.length Cr] 39 (0, 0))] :: H) (fun J => ?_) ?_
        · refine AtL.split (t := 19) rfl ?_ ?_
          · intro hs19
            have hs19 : ¬ (((codeF flags) : Int) = 0) := of_decide_eq_false (bnot_true hs19)
            refine AtL.fieldAddrB tf_fo39_1 (.inr ⟨_, _, _, rfl, rfl, rfl, rfl⟩) rfl rfl rfl ?_
            refine AtL.load tf_flat3 (.inr ⟨_, _, _, rfl, rfl, rfl, rfl⟩) rfl rfl (Cell.own 0 0 rfl rfl rfl) ?_
            refine AtL.band (z := (codeF flags)) (.inr ⟨_, _, _, rfl, rfl, rfl, rfl⟩) rfl rfl rfl rfl ?_
            refine AtL.nei (.inr ⟨_, _, _, rfl, rfl, rfl, rfl⟩) rfl rfl rfl ?_
            refine AtL.pickT (.inr ⟨_, _, _, rfl, rfl, rfl, rfl⟩) rfl rfl rfl ?_
            exact J _ (by exact ⟨(boolIs (by clear J; first | (simp [hs19]; done) | (simp_all; done) | grind)), rfl, rfl, rfl, rfl, trivial⟩)
          · intro hs19
            have hs19 : ((codeF flags) : Int) = 0 := of_decide_eq_true (bnot_false hs19)
            refine AtL.skipped rfl rfl rfl rfl rfl rfl ?_
            refine AtL.skipped rfl rfl rfl rfl rfl rfl ?_
            refine AtL.skipped rfl rfl rfl rfl rfl rfl ?_
            refine AtL.skipped rfl rfl rfl rfl rfl rfl ?_
            refine AtL.pickF (.inr ⟨_, _, _, rfl, rfl, rfl, rfl⟩) rfl rfl rfl ?_
            exact J _ (by exact ⟨(boolIs (by clear J; first | (simp [hs19]; done) | (simp_all; done) | grind)), rfl, rfl, rfl, rfl, trivial⟩)
        · skip
          refine AtL.move (.inr ⟨_, _, _, rfl, rfl, rfl, rfl⟩) rfl rfl ?_
          refine AtL.join 3 (E' := [(28, .bool (decide (((¬ (((codeF flags) : Int) = 0)) ∧ (¬ (((codeF flags) : Int) = 3))) ∧ (¬ ((za4 : Int) = 0))))), (1, .pointer (some ⟨b1, 0, none⟩)), (3, .bool true), (4, .int .i64 za4), (14, .bool false)]) (H' := [(b1, .cells #[.int .i64 id, .int .i64 flags, .slice Aq qs.length Cq, .slice Aa an.length Ca, .slice An ns.length Cn, .slice Ar ar.length Cr] 39 (0, 0))] :: H) (fun J => ?_) ?_
          · refine AtL.split (t := 25) rfl ?_ ?_
            · intro hs25
              have hs25 : (¬ (((codeF flags) : Int) = 0)) ∧ (¬ (((codeF flags) : Int) = 3)) := of_decide_eq_true hs25
              refine AtL.move (.inr ⟨_, _, _, rfl, rfl, rfl, rfl⟩) rfl rfl ?_
              refine AtL.nei (.inr ⟨_, _, _, rfl, rfl, rfl, rfl⟩) rfl rfl rfl ?_
              refine AtL.pickT (.inr ⟨_, _, _, rfl, rfl, rfl, rfl⟩) rfl rfl rfl ?_
              exact J _ (by exact ⟨(boolIs (by clear J; first | (simp [hs25]; done) | (simp_all; done) | grind)), rfl, rfl, rfl, rfl, trivial⟩)
            · intro hs25
              have hs25 : ¬ ((¬ (((codeF flags) : Int) = 0)) ∧ (¬ (((codeF flags) : Int) = 3))) := of_decide_eq_false hs25
              refine AtL.skipped rfl rfl rfl rfl rfl rfl ?_
              refine AtL.skipped rfl rfl rfl rfl rfl rfl ?_
              refine AtL.pickF (.inr ⟨_, _, _, rfl, rfl, rfl, rfl⟩) rfl rfl rfl ?_
              exact J _ (by exact ⟨(boolIs (by clear J; first | (simp [hs25]; done) | (simp_all; done) | grind)), rfl, rfl, rfl, rfl, trivial⟩)
          · skip
            refine AtL.pickF (.inl rfl) rfl rfl rfl ?_
            exact J _ (by exact ⟨(boolIs (by clear J; first | (simp [hs14]; done) | (simp_all; done) | grind)), rfl, rfl, rfl, trivial⟩)
    · skip
      refine AtL.done ?_
      refine At.cond rfl ?_ ?_
      · intro hc2
        have hc2 : ((za4 : Int) < 0) ∨ (((¬ (((codeF flags) : Int) = 0)) ∧ (¬ (((codeF flags) : Int) = 3))) ∧ (¬ ((za4 : Int) = 0))) := of_decide_eq_true hc2
        exfalso; omega
      · intro hc2
        have hc2 : ¬ (((za4 : Int) < 0) ∨ (((¬ (((codeF flags) : Int) = 0)) ∧ (¬ (((codeF flags) : Int) = 3))) ∧ (¬ ((za4 : Int) = 0)))) := of_decide_eq_false hc2
        refine At.skip ?_
        refine At.seq ?_
        refine At.seq ?_
        refine At.region ?_
        refine AtL.assign (.inl rfl) rfl rfl ?_
        refine AtL.done ?_
        refine At.block ?_
        refine At.loop (fun (i : Nat) => [(1, .pointer (some ⟨b1, 0, none⟩)), (3, .bool true), (4, .int .i64 za4), (5, .int .i64 (i : Int))]) (fun (i : Nat) => [(b1, .cells #[.int .i64 id, .int .i64 flags, .slice Aq qs.length Cq, .slice Aa an.length Ca, .slice An ns.length Cn, .slice Ar ar.length Cr] 39 (0, 0))] :: H) (fun (i : Nat) => i ≤ an.length) (fun (i : Nat) => an.length - i) 0 (Nat.zero_le _) ⟨rfl, rfl, rfl, rfl, trivial⟩ rfl ?_
        rintro i hi ihL1
        refine At.seq ?_
        refine At.seq ?_
        refine At.region ?_
        refine AtL.move (.inl rfl) rfl rfl ?_
        refine AtL.fieldAddrB tf_fo39_3 (.inl rfl) rfl rfl rfl ?_
        refine AtL.load tf_flat37 (.inl rfl) rfl rfl (Cell.own 0 0 rfl rfl rfl) ?_
        refine AtL.lenL Tryd.underlying37 (.inl rfl) rfl rfl ?_
        refine AtL.lss (.inl rfl) rfl rfl rfl ?_
        refine AtL.done ?_
        refine At.cond rfl ?_ ?_
        · intro hc3
          have hc3 : (i : Int) < (an.length : Int) := of_decide_eq_true hc3
          refine At.skip ?_
          refine At.seq ?_
          refine At.block ?_
          refine At.seq ?_
          refine At.region ?_
          refine AtL.move (.inl rfl) rfl rfl ?_
          refine AtL.fieldAddrB tf_fo39_3 (.inl rfl) rfl rfl rfl ?_
          refine AtL.load tf_flat37 (.inl rfl) rfl rfl (Cell.own 0 0 rfl rfl rfl) ?_
          refine AtL.move (.inl rfl) rfl rfl ?_
          refine AtL.indexL i (Rd.skip 1 ha) Tryd.underlying37 tf_sz43 (.inl rfl) rfl rfl rfl rfl (by omega) ?_
          refine AtL.fieldAddr tf_fo43_3 (.inl rfl) rfl rfl ?_
          refine AtL.load (v := .int .i64 ((an.getD i (([], 0, 0, 0, []) : List UInt8 × Int × Int × Int × List UInt8)).2.2.2.1)) tf_flat3 (.inl rfl) rfl rfl (Rd.cell_at (Rd.skip 1 ha) (j := 3) (getD_some (([], 0, 0, 0, []) : List UInt8 × Int × Int × Int × List UInt8) (by omega)) rfl) ?_
          refine AtL.maxZ (z := max ((an.getD i (([], 0, 0, 0, []) : List UInt8 × Int × Int × Int × List UInt8)).2.2.2.1) 0) (.inl rfl) rfl rfl rfl (by omega) ?_
          refine AtL.gtr (.inl rfl) rfl rfl rfl ?_
          refine AtL.done ?_
          refine At.cond rfl ?_ ?_
          · intro hc4
            have hc4 : (max ((an.getD i (([], 0, 0, 0, []) : List UInt8 × Int × Int × Int × List UInt8)).2.2.2.1) 0) < za4 := of_decide_eq_true hc4
            exfalso; have h9 := hza5.le _ (getD_mem (l := an) (i := i) (d := (([], 0, 0, 0, []) : List UInt8 × Int × Int × Int × List UInt8)) (by omega)); omega
          · intro hc4
            have hc4 : ¬ ((max ((an.getD i (([], 0, 0, 0, []) : List UInt8 × Int × Int × Int × List UInt8)).2.2.2.1) 0) < za4) := of_decide_eq_false hc4
            refine At.skip ?_
            refine At.inBlock ?_
            refine At.region ?_
            refine AtL.move (.inl rfl) rfl rfl ?_
            refine AtL.add (z := (i : Int) + 1) (.inl rfl) rfl rfl rfl (w64 (by omega) (by omega)) ?_
            refine AtL.assign (.inl rfl) rfl rfl ?_
            refine AtL.done ?_
            refine ihL1 (i + 1) (by omega) (by omega) _ ?_
            exact ⟨rfl, rfl, rfl, (by first | rfl | exact slLen (by simp []) | exact intEq (by omega) | exact intEq (by simp []) | exact slLen (by simp []; omega)), trivial⟩
        · intro hc3
          have hc3 : ¬ ((i : Int) < (an.length : Int)) := of_decide_eq_false hc3
          refine At.exit rfl ?_
          refine At.seq ?_
          refine At.region ?_
          refine AtL.move (.inl rfl) rfl rfl ?_
          refine AtL.assign (.inl rfl) rfl rfl ?_
          refine AtL.done ?_
          refine At.pick (H' := H) [] 1 rfl rfl ?_
          exact At.ret Tryd.func4 rfl rfl (⟨rfl, rfl⟩)

end Go.Proofs.YtlkdmbpbjhjkfaaDoor
