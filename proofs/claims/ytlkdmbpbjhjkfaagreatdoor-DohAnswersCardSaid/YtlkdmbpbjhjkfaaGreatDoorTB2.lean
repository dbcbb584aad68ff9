/- Responses: Check. -/
import Derived.Test.YtlkdmbpbjhjkfaaGreatDoorTB1
import Derived.Test.YtlkdmbpbjhjkfaaGreatDoorTR1
namespace Go.Proofs.YtlkdmbpbjhjkfaaGreatDoor
set_option linter.unusedVariables false
set_option linter.unusedSimpArgs false
set_option maxRecDepth 100000

theorem own_yes {f : Fld} (h : lowerF f.1 = lowerF CLEN ∨ lowerF f.1 = lowerF CONN ∨ lowerF f.1 = lowerF TENC) : ownF f = true := decide_eq_true h
theorem own_not {f : Fld} (h1 : ¬ lowerF f.1 = lowerF CLEN) (h2 : ¬ lowerF f.1 = lowerF CONN) (h3 : ¬ lowerF f.1 = lowerF TENC) : ownF f = false := decide_eq_false (by rintro (h | h | h); exact h1 h; exact h2 h; exact h3 h)

set_option maxHeartbeats 400000 in
theorem own_ok {w0 : World} {base : Nat} {H : List Seg} {n v : List UInt8} (hn : n.length ≤ 140737488355000) (hv : v.length ≤ 140737488355000) :
    SCalls Tryz.prog 106 [.agg #[str n, str v]] w0 base (H) (fun u H' => u = .bool (ownF (n, v)) ∧ H' = H) := by
  refine SCalls.of_walk (n := 24) Tryz.func106 rfl rfl rfl fun cs => ?_
  refine At.seq ?_
  refine At.region ?_
  refine AtL.box (cs := #[str n, str v]) rfl (.inl rfl) rfl rfl ?_
  intro b1
  refine AtL.assign (.inl rfl) rfl rfl ?_
  refine AtL.done ?_
  refine At.seq ?_
  refine At.seq ?_
  refine At.region ?_
  refine AtL.buildSlice (cs := [str [99, 111, 110, 116, 101, 110, 116, 45, 108, 101, 110, 103, 116, 104], str [99, 111, 110, 110, 101, 99, 116, 105, 111, 110], str [116, 114, 97, 110, 115, 102, 101, 114, 45, 101, 110, 99, 111, 100, 105, 110, 103]]) Tryz.underlying109 tf_zero9 tf_sz9 rfl rfl (.inl rfl) rfl rfl rfl ?_
  intro b2
  refine AtL.own1 tyS (l := ([[99, 111, 110, 116, 101, 110, 116, 45, 108, 101, 110, 103, 116, 104], [99, 111, 110, 110, 101, 99, 116, 105, 111, 110], [116, 114, 97, 110, 115, 102, 101, 114, 45, 101, 110, 99, 111, 100, 105, 110, 103]] : List (List UInt8))) rfl rfl (by first | decide | simp) ?_
  intro s3 o4
  refine AtL.lenL Tryz.underlying109 (.inl rfl) rfl rfl ?_
  refine AtL.move (.inl rfl) rfl rfl ?_
  refine AtL.done ?_
  refine At.block ?_
  refine At.unroll ?_
  refine At.seq ?_
  refine At.region ?_
  refine AtL.lss (.inl rfl) rfl rfl rfl ?_
  refine AtL.done ?_
  refine At.seq ?_
  refine At.condIs true rfl (by decide) ?_
  refine At.skip ?_
  refine At.seq ?_
  refine At.block ?_
  refine At.seq ?_
  refine At.region ?_
  refine AtL.indexL 0 (o4.rd (i := 0) rfl) Tryz.underlying109 tf_sz9 (.inl rfl) rfl rfl rfl rfl (by decide) ?_
  refine AtL.load (v := str (([[99, 111, 110, 116, 101, 110, 116, 45, 108, 101, 110, 103, 116, 104], [99, 111, 110, 110, 101, 99, 116, 105, 111, 110], [116, 114, 97, 110, 115, 102, 101, 114, 45, 101, 110, 99, 111, 100, 105, 110, 103]]).getD 0 [])) tf_flat9 (.inl rfl) rfl rfl (Rd.cell0 (o4.rd (i := 0) rfl) (getD_some [] (by decide)) rfl) ?_
  refine AtL.assign (.inl rfl) rfl rfl ?_
  refine AtL.done ?_
  refine At.seq ?_
  refine At.region ?_
  refine AtL.loadN (cs := [str n, str v]) tf_agg78 (.inl rfl) rfl rfl rfl (cellsOwn 1 0 0 rfl rfl rfl) ?_
  refine AtL.buildSlice (cs := [str n, str v]) Tryz.underlying45 tf_zero78 tf_sz78 rfl rfl (.inl rfl) rfl rfl rfl ?_
  intro b5
  refine AtL.own1 tyField (l := ([(n, v)] : List (List UInt8 × List UInt8))) rfl rfl (by first | decide | simp) ?_
  intro s6 o7
  refine AtL.build (cs := [str [], str [], .int .i64 0, .slice (some ⟨b5, 0, none⟩) [(n, v)].length 1]) tf_lay47 (.inl rfl) rfl rfl rfl ?_
  refine AtL.move (.inl rfl) rfl rfl ?_
  refine AtL.call tf_body76 (.inl rfl) rfl rfl (field_ok (fs := [(n, v)]) (o7.rd (i := 0) rfl) (nm := (([[99, 111, 110, 116, 101, 110, 116, 45, 108, 101, 110, 103, 116, 104], [99, 111, 110, 110, 101, 99, 116, 105, 111, 110], [116, 114, 97, 110, 115, 102, 101, 114, 45, 101, 110, 99, 111, 100, 105, 110, 103]]).getD 0 [])) (by decide) (by simp) (fun f hf => by simp only [List.mem_singleton] at hf; subst hf; exact ⟨hn, hv⟩)) ?_
  rintro _ _ ⟨rfl, rfl⟩
  refine AtL.move (.inl rfl) rfl rfl ?_
  refine AtL.extract (.inl rfl) rfl rfl rfl ?_
  refine AtL.extract (.inl rfl) rfl rfl rfl ?_
  refine AtL.assign (.inl rfl) rfl rfl ?_
  refine AtL.assign (.inl rfl) rfl rfl ?_
  refine AtL.done ?_
  refine At.seq ?_
  refine At.region ?_
  refine AtL.move (.inl rfl) rfl rfl ?_
  refine AtL.gtr (.inl rfl) rfl rfl rfl ?_
  refine AtL.done ?_
  refine At.cond rfl ?_ ?_
  · intro hc2
    have hc2 : 0 < ((fieldF [(n, v)] (([[99, 111, 110, 116, 101, 110, 116, 45, 108, 101, 110, 103, 116, 104], [99, 111, 110, 110, 101, 99, 116, 105, 111, 110], [116, 114, 97, 110, 115, 102, 101, 114, 45, 101, 110, 99, 111, 100, 105, 110, 103]]).getD 0 [])).2 : Int) := of_decide_eq_true hc2
    refine At.seq ?_
    refine At.region ?_
    refine AtL.assign (.inl rfl) rfl rfl ?_
    refine AtL.done ?_
    refine At.pick (H' := H) [] 3 rfl rfl ?_
    exact At.ret Tryz.func106 rfl rfl (⟨congrArg Value.bool (own_yes (.inl (one_pos.1 hc2))).symm, rfl⟩)
  · intro hc2
    have hc2 : ¬ (0 < ((fieldF [(n, v)] (([[99, 111, 110, 116, 101, 110, 116, 45, 108, 101, 110, 103, 116, 104], [99, 111, 110, 110, 101, 99, 116, 105, 111, 110], [116, 114, 97, 110, 115, 102, 101, 114, 45, 101, 110, 99, 111, 100, 105, 110, 103]]).getD 0 [])).2 : Int)) := of_decide_eq_false hc2
    have hno1 := mt one_pos.2 hc2
    refine At.skip ?_
    refine At.inBlock ?_
    refine At.region ?_
    refine AtL.add (z := 1) (.inl rfl) rfl rfl rfl (by decide) ?_
    refine AtL.move (.inl rfl) rfl rfl ?_
    refine AtL.done ?_
    refine At.again ?_
    refine At.seq ?_
    refine At.region ?_
    refine AtL.lss (.inl rfl) rfl rfl rfl ?_
    refine AtL.done ?_
    refine At.seq ?_
    refine At.condIs true rfl (by decide) ?_
    refine At.skip ?_
    refine At.seq ?_
    refine At.block ?_
    refine At.seq ?_
    refine At.region ?_
    refine AtL.indexL 1 (o4.rd (i := 1) rfl) Tryz.underlying109 tf_sz9 (.inl rfl) rfl rfl rfl rfl (by decide) ?_
    refine AtL.load (v := str (([[99, 111, 110, 116, 101, 110, 116, 45, 108, 101, 110, 103, 116, 104], [99, 111, 110, 110, 101, 99, 116, 105, 111, 110], [116, 114, 97, 110, 115, 102, 101, 114, 45, 101, 110, 99, 111, 100, 105, 110, 103]]).getD 1 [])) tf_flat9 (.inl rfl) rfl rfl (Rd.cell0 (o4.rd (i := 1) rfl) (getD_some [] (by decide)) rfl) ?_
    refine AtL.assign (.inl rfl) rfl rfl ?_
    refine AtL.done ?_
    refine At.seq ?_
    refine At.region ?_
    refine AtL.loadN (cs := [str n, str v]) tf_agg78 (.inl rfl) rfl rfl rfl (cellsOwn 2 0 0 rfl rfl rfl) ?_
    refine AtL.buildSlice (cs := [str n, str v]) Tryz.underlying45 tf_zero78 tf_sz78 rfl rfl (.inl rfl) rfl rfl rfl ?_
    intro b8
    refine AtL.own1 tyField (l := ([(n, v)] : List (List UInt8 × List UInt8))) rfl rfl (by first | decide | simp) ?_
    intro s9 o10
    refine AtL.build (cs := [str [], str [], .int .i64 0, .slice (some ⟨b8, 0, none⟩) [(n, v)].length 1]) tf_lay47 (.inl rfl) rfl rfl rfl ?_
    refine AtL.move (.inl rfl) rfl rfl ?_
    refine AtL.call tf_body76 (.inl rfl) rfl rfl (field_ok (fs := [(n, v)]) (o10.rd (i := 0) rfl) (nm := (([[99, 111, 110, 116, 101, 110, 116, 45, 108, 101, 110, 103, 116, 104], [99, 111, 110, 110, 101, 99, 116, 105, 111, 110], [116, 114, 97, 110, 115, 102, 101, 114, 45, 101, 110, 99, 111, 100, 105, 110, 103]]).getD 1 [])) (by decide) (by simp) (fun f hf => by simp only [List.mem_singleton] at hf; subst hf; exact ⟨hn, hv⟩)) ?_
    rintro _ _ ⟨rfl, rfl⟩
    refine AtL.move (.inl rfl) rfl rfl ?_
    refine AtL.extract (.inl rfl) rfl rfl rfl ?_
    refine AtL.extract (.inl rfl) rfl rfl rfl ?_
    refine AtL.assign (.inl rfl) rfl rfl ?_
    refine AtL.assign (.inl rfl) rfl rfl ?_
    refine AtL.done ?_
    refine At.seq ?_
    refine At.region ?_
    refine AtL.move (.inl rfl) rfl rfl ?_
    refine AtL.gtr (.inl rfl) rfl rfl rfl ?_
    refine AtL.done ?_
    refine At.cond rfl ?_ ?_
    · intro hc2
      have hc2 : 0 < ((fieldF [(n, v)] (([[99, 111, 110, 116, 101, 110, 116, 45, 108, 101, 110, 103, 116, 104], [99, 111, 110, 110, 101, 99, 116, 105, 111, 110], [116, 114, 97, 110, 115, 102, 101, 114, 45, 101, 110, 99, 111, 100, 105, 110, 103]]).getD 1 [])).2 : Int) := of_decide_eq_true hc2
      refine At.seq ?_
      refine At.region ?_
      refine AtL.assign (.inl rfl) rfl rfl ?_
      refine AtL.done ?_
      refine At.pick (H' := H) [] 4 rfl rfl ?_
      exact At.ret Tryz.func106 rfl rfl (⟨congrArg Value.bool (own_yes (.inr (.inl (one_pos.1 hc2)))).symm, rfl⟩)
    · intro hc2
      have hc2 : ¬ (0 < ((fieldF [(n, v)] (([[99, 111, 110, 116, 101, 110, 116, 45, 108, 101, 110, 103, 116, 104], [99, 111, 110, 110, 101, 99, 116, 105, 111, 110], [116, 114, 97, 110, 115, 102, 101, 114, 45, 101, 110, 99, 111, 100, 105, 110, 103]]).getD 1 [])).2 : Int)) := of_decide_eq_false hc2
      have hno2 := mt one_pos.2 hc2
      refine At.skip ?_
      refine At.inBlock ?_
      refine At.region ?_
      refine AtL.add (z := 2) (.inl rfl) rfl rfl rfl (by decide) ?_
      refine AtL.move (.inl rfl) rfl rfl ?_
      refine AtL.done ?_
      refine At.again ?_
      refine At.seq ?_
      refine At.region ?_
      refine AtL.lss (.inl rfl) rfl rfl rfl ?_
      refine AtL.done ?_
      refine At.seq ?_
      refine At.condIs true rfl (by decide) ?_
      refine At.skip ?_
      refine At.seq ?_
      refine At.block ?_
      refine At.seq ?_
      refine At.region ?_
      refine AtL.indexL 2 (o4.rd (i := 2) rfl) Tryz.underlying109 tf_sz9 (.inl rfl) rfl rfl rfl rfl (by decide) ?_
      refine AtL.load (v := str (([[99, 111, 110, 116, 101, 110, 116, 45, 108, 101, 110, 103, 116, 104], [99, 111, 110, 110, 101, 99, 116, 105, 111, 110], [116, 114, 97, 110, 115, 102, 101, 114, 45, 101, 110, 99, 111, 100, 105, 110, 103]]).getD 2 [])) tf_flat9 (.inl rfl) rfl rfl (Rd.cell0 (o4.rd (i := 2) rfl) (getD_some [] (by decide)) rfl) ?_
      refine AtL.assign (.inl rfl) rfl rfl ?_
      refine AtL.done ?_
      refine At.seq ?_
      refine At.region ?_
      refine AtL.loadN (cs := [str n, str v]) tf_agg78 (.inl rfl) rfl rfl rfl (cellsOwn 3 0 0 rfl rfl rfl) ?_
      refine AtL.buildSlice (cs := [str n, str v]) Tryz.underlying45 tf_zero78 tf_sz78 rfl rfl (.inl rfl) rfl rfl rfl ?_
      intro b11
      refine AtL.own1 tyField (l := ([(n, v)] : List (List UInt8 × List UInt8))) rfl rfl (by first | decide | simp) ?_
      intro s12 o13
      refine AtL.build (cs := [str [], str [], .int .i64 0, .slice (some ⟨b11, 0, none⟩) [(n, v)].length 1]) tf_lay47 (.inl rfl) rfl rfl rfl ?_
      refine AtL.move (.inl rfl) rfl rfl ?_
      refine AtL.call tf_body76 (.inl rfl) rfl rfl (field_ok (fs := [(n, v)]) (o13.rd (i := 0) rfl) (nm := (([[99, 111, 110, 116, 101, 110, 116, 45, 108, 101, 110, 103, 116, 104], [99, 111, 110, 110, 101, 99, 116, 105, 111, 110], [116, 114, 97, 110, 115, 102, 101, 114, 45, 101, 110, 99, 111, 100, 105, 110, 103]]).getD 2 [])) (by decide) (by simp) (fun f hf => by simp only [List.mem_singleton] at hf; subst hf; exact ⟨hn, hv⟩)) ?_
      rintro _ _ ⟨rfl, rfl⟩
      refine AtL.move (.inl rfl) rfl rfl ?_
      refine AtL.extract (.inl rfl) rfl rfl rfl ?_
      refine AtL.extract (.inl rfl) rfl rfl rfl ?_
      refine AtL.assign (.inl rfl) rfl rfl ?_
      refine AtL.assign (.inl rfl) rfl rfl ?_
      refine AtL.done ?_
      refine At.seq ?_
      refine At.region ?_
      refine AtL.move (.inl rfl) rfl rfl ?_
      refine AtL.gtr (.inl rfl) rfl rfl rfl ?_
      refine AtL.done ?_
      refine At.cond rfl ?_ ?_
      · intro hc2
        have hc2 : 0 < ((fieldF [(n, v)] (([[99, 111, 110, 116, 101, 110, 116, 45, 108, 101, 110, 103, 116, 104], [99, 111, 110, 110, 101, 99, 116, 105, 111, 110], [116, 114, 97, 110, 115, 102, 101, 114, 45, 101, 110, 99, 111, 100, 105, 110, 103]]).getD 2 [])).2 : Int) := of_decide_eq_true hc2
        refine At.seq ?_
        refine At.region ?_
        refine AtL.assign (.inl rfl) rfl rfl ?_
        refine AtL.done ?_
        refine At.pick (H' := H) [] 5 rfl rfl ?_
        exact At.ret Tryz.func106 rfl rfl (⟨congrArg Value.bool (own_yes (.inr (.inr (one_pos.1 hc2)))).symm, rfl⟩)
      · intro hc2
        have hc2 : ¬ (0 < ((fieldF [(n, v)] (([[99, 111, 110, 116, 101, 110, 116, 45, 108, 101, 110, 103, 116, 104], [99, 111, 110, 110, 101, 99, 116, 105, 111, 110], [116, 114, 97, 110, 115, 102, 101, 114, 45, 101, 110, 99, 111, 100, 105, 110, 103]]).getD 2 [])).2 : Int)) := of_decide_eq_false hc2
        have hno3 := mt one_pos.2 hc2
        refine At.skip ?_
        refine At.inBlock ?_
        refine At.region ?_
        refine AtL.add (z := 3) (.inl rfl) rfl rfl rfl (by decide) ?_
        refine AtL.move (.inl rfl) rfl rfl ?_
        refine AtL.done ?_
        refine At.again ?_
        refine At.seq ?_
        refine At.region ?_
        refine AtL.lss (.inl rfl) rfl rfl rfl ?_
        refine AtL.done ?_
        refine At.seq ?_
        refine At.condIs false rfl (by decide) ?_
        refine At.exit rfl ?_
        refine At.seq ?_
        refine At.region ?_
        refine AtL.assign (.inl rfl) rfl rfl ?_
        refine AtL.done ?_
        refine At.pick (H' := H) [] 5 rfl rfl ?_
        exact At.ret Tryz.func106 rfl rfl (⟨congrArg Value.bool (own_not hno1 hno2 hno3).symm, rfl⟩)

theorem rown_eq {n v : List UInt8} {b : Bool} (h : b = decide (lowerF n = lowerF CLEN ∨ lowerF n = lowerF CONN ∨ lowerF n = lowerF TENC)) : b = ownF (n, v) := h

set_option maxHeartbeats 400000 in
theorem rown_ok {w0 : World} {base : Nat} {H : List Seg} {n : List UInt8} (hn : n.length ≤ 140737488355000) (v : List UInt8) :
    SCalls Tryz.prog 111 [str n] w0 base (H) (fun u H' => u = .bool (ownF (n, v)) ∧ H' = H) := by
  refine SCalls.of_walk (n := 13) Tryz.func111 rfl rfl rfl fun cs => ?_
  refine At.seq ?_
  refine At.region ?_
  refine AtL.assign (.inl rfl) rfl rfl ?_
  refine AtL.done ?_
  refine At.seq ?_
  refine At.region ?_
  refine AtL.move (.inl rfl) rfl rfl ?_
  refine AtL.call tf_body126 (.inl rfl) rfl rfl (rsame_ok (a := n) (b := [99, 111, 110, 116, 101, 110, 116, 45, 108, 101, 110, 103, 116, 104]) hn (by decide)) ?_
  rintro _ _ ⟨rfl, hHq⟩
  obtain rfl := hHq.symm
  refine AtL.move (.inl rfl) rfl rfl ?_
  refine AtL.join 3 (E' := [(8, .bool (decide ((lowerF n = lowerF [99, 111, 110, 116, 101, 110, 116, 45, 108, 101, 110, 103, 116, 104]) ∨ (lowerF n = lowerF [99, 111, 110, 110, 101, 99, 116, 105, 111, 110])))), (0, str n)]) (H' := H) (fun J => ?_) ?_
  · refine AtL.split (t := 5) rfl ?_ ?_
    · intro hs5
      have hs5 : lowerF n = lowerF [99, 111, 110, 116, 101, 110, 116, 45, 108, 101, 110, 103, 116, 104] := of_decide_eq_true hs5
      refine AtL.skipped rfl rfl rfl rfl rfl rfl ?_
      refine AtL.skipped rfl rfl rfl rfl rfl rfl ?_
      refine AtL.pickT (.inl rfl) rfl rfl rfl ?_
      exact J _ (by exact ⟨(boolIs (by clear J; first | (simp [hs5]; done) | (simp_all; done) | grind)), rfl, trivial⟩)
    · intro hs5
      have hs5 : ¬ (lowerF n = lowerF [99, 111, 110, 116, 101, 110, 116, 45, 108, 101, 110, 103, 116, 104]) := of_decide_eq_false hs5
      refine AtL.move (.inr ⟨_, _, _, rfl, rfl, rfl, rfl⟩) rfl rfl ?_
      refine AtL.call tf_body126 (.inr ⟨_, _, _, rfl, rfl, rfl, rfl⟩) rfl rfl (rsame_ok (a := n) (b := [99, 111, 110, 110, 101, 99, 116, 105, 111, 110]) hn (by decide)) ?_
      rintro _ _ ⟨rfl, hHq⟩
      obtain rfl := hHq.symm
      refine AtL.pickF (.inl rfl) rfl rfl rfl ?_
      exact J _ (by exact ⟨(boolIs (by clear J; first | (simp [hs5]; done) | (simp_all; done) | grind)), rfl, trivial⟩)
  · skip
    refine AtL.move (.inl rfl) rfl rfl ?_
    refine AtL.join 3 (E' := [(12, .bool (decide (((lowerF n = lowerF [99, 111, 110, 116, 101, 110, 116, 45, 108, 101, 110, 103, 116, 104]) ∨ (lowerF n = lowerF [99, 111, 110, 110, 101, 99, 116, 105, 111, 110])) ∨ (lowerF n = lowerF [116, 114, 97, 110, 115, 102, 101, 114, 45, 101, 110, 99, 111, 100, 105, 110, 103]))))]) (H' := H) (fun J => ?_) ?_
    · refine AtL.split (t := 9) rfl ?_ ?_
      · intro hs9
        have hs9 : (lowerF n = lowerF [99, 111, 110, 116, 101, 110, 116, 45, 108, 101, 110, 103, 116, 104]) ∨ (lowerF n = lowerF [99, 111, 110, 110, 101, 99, 116, 105, 111, 110]) := of_decide_eq_true hs9
        refine AtL.skipped rfl rfl rfl rfl rfl rfl ?_
        refine AtL.skipped rfl rfl rfl rfl rfl rfl ?_
        refine AtL.pickT (.inl rfl) rfl rfl rfl ?_
        exact J _ (by exact ⟨(boolIs (by clear J; first | (simp [hs9]; done) | (simp_all; done) | grind)), trivial⟩)
      · intro hs9
        have hs9 : ¬ ((lowerF n = lowerF [99, 111, 110, 116, 101, 110, 116, 45, 108, 101, 110, 103, 116, 104]) ∨ (lowerF n = lowerF [99, 111, 110, 110, 101, 99, 116, 105, 111, 110])) := of_decide_eq_false hs9
        refine AtL.move (.inr ⟨_, _, _, rfl, rfl, rfl, rfl⟩) rfl rfl ?_
        refine AtL.call tf_body126 (.inr ⟨_, _, _, rfl, rfl, rfl, rfl⟩) rfl rfl (rsame_ok (a := n) (b := [116, 114, 97, 110, 115, 102, 101, 114, 45, 101, 110, 99, 111, 100, 105, 110, 103]) hn (by decide)) ?_
        rintro _ _ ⟨rfl, hHq⟩
        obtain rfl := hHq.symm
        refine AtL.pickF (.inl rfl) rfl rfl rfl ?_
        exact J _ (by exact ⟨(boolIs (by clear J; first | (simp [hs9]; done) | (simp_all; done) | grind)), trivial⟩)
    · skip
      refine AtL.assign (.inl rfl) rfl rfl ?_
      refine AtL.done ?_
      exact At.ret Tryz.func111 rfl rfl (⟨congrArg Value.bool (rown_eq (decide_eq_decide.2 (by show (_ ∨ _) ∨ _ ↔ _; exact or_assoc))), rfl⟩)

theorem fine_trim {n v : List UInt8} (h : ¬ Lib.trimS v [9, 32] = v) : fieldOk (n, v) = false := by
  rw [trim_set] at h
  rw [fieldOk, valueF, decide_eq_false h]; simp
theorem fine_start {n v : List UInt8} (h : Lib.trimS v [9, 32] = v) : (wordF n 64 && v.all valCh) = fieldOk (n, v) := by
  rw [trim_set] at h
  rw [fieldOk, valueF, decide_eq_true h, Bool.and_true]
theorem fine_no {n y : List UInt8} {k : Nat} {r : Bool} (h : (wordF n 64 && y.all valCh) = r) (hc : ¬ writeE ⟨[65], [47], 0, [(n, ([120] ++ subl y 0 k) ++ [120])]⟩ = 0) (hk : k ≤ 2000) (hky : k ≤ y.length) : r = false := by
  rw [part_ok (by rw [subl_len hky]; omega)] at hc
  cases r with
  | false => rfl
  | true =>
    exfalso
    apply hc
    simp only [Bool.and_eq_true] at h
    rw [if_pos]
    rw [subl_to, h.1, Bool.true_and, List.all_eq_true]
    intro x hx
    exact List.all_eq_true.1 h.2 x (List.mem_of_mem_take hx)
theorem fine_next {n y : List UInt8} {k : Nat} {r : Bool} (h : (wordF n 64 && y.all valCh) = r) (hc : writeE ⟨[65], [47], 0, [(n, ([120] ++ subl y 0 k) ++ [120])]⟩ = 0) (hk : k ≤ 2000) (hky : k ≤ y.length) : (wordF n 64 && (subl y k y.length).all valCh) = r ∧ wordF n 64 = true := by
  rw [part_ok (by rw [subl_len hky]; omega)] at hc
  split at hc
  · rename_i h2
    simp only [Bool.and_eq_true, subl_to] at h2
    refine ⟨?_, h2.1⟩
    rw [← h, subl_from, ← List.take_append_drop k y, List.all_append]
    rw [List.take_append_drop]
    rw [h2.2, Bool.true_and]
  · cases hc

set_option maxHeartbeats 400000 in
theorem pfine_ok {w0 : World} {base : Nat} {H : List Seg} {n v : List UInt8} (hn : n.length ≤ 140737488300000) (hv : v.length ≤ 140737488355000) :
    SCalls Tryz.prog 107 [.agg #[str n, str v]] w0 base (H) (fun u H' => u = .bool (fieldOk (n, v)) ∧ H' = H) := by
  refine SCalls.of_walk (n := 33) Tryz.func107 rfl rfl rfl fun cs => ?_
  refine At.seq ?_
  refine At.region ?_
  refine AtL.box (cs := #[str n, str v]) rfl (.inl rfl) rfl rfl ?_
  intro b1
  refine AtL.assign (.inl rfl) rfl rfl ?_
  refine AtL.done ?_
  refine At.seq ?_
  refine At.region ?_
  refine AtL.fieldAddrB tf_fo78_1 (.inl rfl) rfl rfl rfl ?_
  refine AtL.load tf_flat9 (.inl rfl) rfl rfl (Cell.own 0 0 rfl rfl rfl) ?_
  refine AtL.assign (.inl rfl) rfl rfl ?_
  refine AtL.done ?_
  refine At.seq ?_
  refine At.seq ?_
  refine At.region ?_
  refine AtL.move (.inl rfl) rfl rfl ?_
  refine AtL.call tf_body102 (.inl rfl) rfl rfl (trim_ok (x := v) (cs := [9, 32]) (by omega) (by decide) (by decide)) ?_
  rintro _ _ ⟨rfl, rfl⟩
  refine AtL.move (.inl rfl) rfl rfl ?_
  refine AtL.nes (a := Lib.trimS v [9, 32]) (b := v) (.inl rfl) rfl rfl rfl ?_
  refine AtL.done ?_
  refine At.cond rfl ?_ ?_
  · intro hc1
    have hc1 : ¬ (Lib.trimS v [9, 32] = v) := of_decide_eq_false (bnot_true hc1)
    refine At.seq ?_
    refine At.region ?_
    refine AtL.assign (.inl rfl) rfl rfl ?_
    refine AtL.done ?_
    refine At.pick (H' := H) [] 1 rfl rfl ?_
    exact At.ret Tryz.func107 rfl rfl (⟨congrArg Value.bool (fine_trim hc1).symm, rfl⟩)
  · intro hc1
    have hc1 : Lib.trimS v [9, 32] = v := of_decide_eq_true (bnot_false hc1)
    refine At.skip ?_
    refine At.block ?_
    refine At.loop (fun (y : List UInt8) => [(1, .pointer (some ⟨b1, 0, none⟩)), (3, str y)]) (fun (y : List UInt8) => [(b1, .cells #[str n, str v] 78 (0, 0))] :: H) (fun (y : List UInt8) => (wordF n 64 && y.all valCh) = fieldOk (n, v) ∧ y.length ≤ v.length) (fun (y : List UInt8) => y.length) v (⟨fine_start hc1, Nat.le_refl _⟩) ⟨rfl, rfl, trivial⟩ rfl ?_
    rintro y ⟨hf, hy⟩ ihL1
    refine At.block ?_
    refine At.seq ?_
    refine At.region ?_
    refine AtL.move (.inl rfl) rfl rfl ?_
    refine AtL.lenS (l := y) Tryz.underlying9 (.inl rfl) rfl rfl ?_
    refine AtL.minZ (z := ((min y.length 2000 : Nat) : Int)) (.inl rfl) rfl rfl rfl (by omega) ?_
    refine AtL.assign (.inl rfl) rfl rfl ?_
    refine AtL.done ?_
    obtain ⟨k, hk⟩ : ∃ k : Nat, k = min y.length 2000 := ⟨_, rfl⟩
    rw [← hk]
    have hk1 : k ≤ 2000 := by omega
    have hk2 : k ≤ y.length := by omega
    refine At.seq ?_
    refine At.joinQ (fun E2 H2 => ∃ (b5 : Nat), ∃ (xs3 : Sl tyField 78), xs3.l = [(n, ([120] ++ (subl y 0 k)) ++ [120])] ∧ Sub [(1, .pointer (some ⟨b1, 0, none⟩)), (3, str y), (4, .int .i64 (k : Int)), (5, .pointer (some ⟨b5, 0, none⟩))] E2 ∧ H2 = [(b5, .cells #[str [65], str [47], .int .i64 0, .slice xs3.A xs3.l.length xs3.C] 47 (0, 0))] :: xs3.s :: [(b1, .cells #[str n, str v] 78 (0, 0))] :: H) (fun J => ?_) ?_
    · skip
      refine At.drawM (n := 3) (fs := [8, 10]) (pv := [(0, .pointer (some ⟨b1, 0, none⟩)), (1, str n), (2, str y), (3, .int .i64 (k : Int)), (4, str (subl y 0 k)), (5, str ([120] ++ (subl y 0 k))), (6, str (([120] ++ (subl y 0 k)) ++ [120])), (7, .agg #[str n, str (([120] ++ (subl y 0 k)) ++ [120])])]) tf_mixed (by kernel_rfl) (by kernel_rfl) (by kernel_rfl) ?_
      refine ⟨⟨.inr ⟨_, rfl, rfl, .inl ⟨rfl, Do.fieldAddrB tf_fo78_0 rfl rfl⟩⟩, .inr ⟨_, rfl, rfl, .inl ⟨rfl, Do.load tf_flat9 rfl (Cell.own 0 0 rfl rfl rfl)⟩⟩, .inr ⟨_, rfl, rfl, .inl ⟨rfl, Do.move rfl⟩⟩, .inr ⟨_, rfl, rfl, .inl ⟨rfl, Do.move rfl⟩⟩, .inr ⟨_, rfl, rfl, .inl ⟨rfl, Do.sliceS (l := y) 0 k rfl (evBound_some rfl rfl) (by omega) (by omega) Tryz.underlying9 rfl⟩⟩, .inr ⟨_, rfl, rfl, .inl ⟨rfl, Do.cat rfl rfl (by simp only [List.length_append, List.length_cons, List.length_nil, subl_len hk2]; omega)⟩⟩, .inr ⟨_, rfl, rfl, .inl ⟨rfl, Do.cat rfl rfl (by simp only [List.length_append, List.length_cons, List.length_nil, subl_len hk2]; omega)⟩⟩, .inr ⟨_, rfl, rfl, .inl ⟨rfl, Do.build (cs := [str n, str (([120] ++ (subl y 0 k)) ++ [120])]) tf_lay78 rfl rfl⟩⟩, trivial⟩, List.cons_ne_nil _ _, by kernel_rfl, by kernel_rfl, ⟨_, rfl, rfl, rfl, _, Do.own1 tyField (l := ([(n, ([120] ++ (subl y 0 k)) ++ [120])] : List (List UInt8 × List UInt8))) (Do.buildSlice (cs := [str n, str (([120] ++ (subl y 0 k)) ++ [120])]) Tryz.underlying45 tf_zero78 tf_sz78 rfl rfl rfl rfl) rfl rfl (by first | decide | simp), ?_⟩, ⟨_, rfl, rfl, rfl, _, Do.alloc tf_zero47 (cs := #[str [], str [], .int .i64 0, .slice none 0 0]) rfl, ?_⟩, trivial⟩
      · skip
        rintro _ _ ⟨b6, s7, o8, rfl, rfl⟩
        refine ⟨[(9, .agg #[str [65], str [47], .int .i64 0, .slice (some ⟨b6, 0, none⟩) ([(n, ([120] ++ (subl y 0 k)) ++ [120])]).length 1])], [10], rfl, ?_⟩
        refine ⟨⟨.inr ⟨_, rfl, rfl, .inl ⟨rfl, Do.build (cs := [str [65], str [47], .int .i64 0, .slice (some ⟨b6, 0, none⟩) ([(n, ([120] ++ (subl y 0 k)) ++ [120])]).length 1]) tf_lay47 rfl rfl⟩⟩, .inl (by kernel_rfl), .inl (by kernel_rfl), .inl (by kernel_rfl), .inl (by kernel_rfl), .inl (by kernel_rfl), .inl (by kernel_rfl), .inl (by kernel_rfl), .inl (by kernel_rfl), trivial⟩, List.cons_ne_nil _ _, by kernel_rfl, by kernel_rfl, ⟨_, rfl, rfl, rfl, _, Do.alloc tf_zero47 (cs := #[str [], str [], .int .i64 0, .slice none 0 0]) rfl, ?_⟩, trivial⟩
        rintro _ _ ⟨b10, rfl, rfl⟩
        refine ⟨[], [11], rfl, ?_⟩
        refine ⟨⟨.inr ⟨_, rfl, rfl, .inl ⟨rfl, Do.build (cs := [str [65], str [47], .int .i64 0, .slice (some ⟨b6, 0, none⟩) ([(n, ([120] ++ (subl y 0 k)) ++ [120])]).length 1]) tf_lay47 rfl rfl⟩⟩, .inl (by kernel_rfl), .inl (by kernel_rfl), .inl (by kernel_rfl), .inl (by kernel_rfl), .inl (by kernel_rfl), .inl (by kernel_rfl), .inl (by kernel_rfl), .inl (by kernel_rfl), trivial⟩, List.cons_ne_nil _ _, by kernel_rfl, by kernel_rfl, ⟨_, rfl, rfl, rfl, _, Do.store (H' := [(b10, .cells #[str [65], str [47], .int .i64 0, .slice (some ⟨b6, 0, none⟩) ([(n, ([120] ++ (subl y 0 k)) ++ [120])]).length 1] 47 (0, 0))] :: s7 :: [(b1, .cells #[str n, str v] 78 (0, 0))] :: H) 0 0 tf_sz47 rfl rfl rfl rfl rfl rfl rfl rfl rfl, ?_⟩, trivial⟩
        rintro _ _ ⟨rfl, rfl⟩
        refine ⟨[], [], rfl, ?_⟩
        refine ⟨⟨.inl (by kernel_rfl), .inl (by kernel_rfl), .inl (by kernel_rfl), .inl (by kernel_rfl), .inl (by kernel_rfl), .inl (by kernel_rfl), .inl (by kernel_rfl), .inl (by kernel_rfl), .inl (by kernel_rfl), trivial⟩, by kernel_rfl, ?_⟩
        exact J _ _ ⟨b10, ⟨(some ⟨b6, 0, none⟩), 1, [(n, ([120] ++ (subl y 0 k)) ++ [120])], s7, o8⟩, rfl, ⟨rfl, rfl, rfl, rfl, trivial⟩, rfl⟩
      · skip
        rintro _ _ ⟨b9, rfl, rfl⟩
        refine ⟨[], [8], rfl, ?_⟩
        refine ⟨⟨.inr ⟨_, rfl, rfl, .inl ⟨rfl, Do.fieldAddrB tf_fo78_0 rfl rfl⟩⟩, .inr ⟨_, rfl, rfl, .inl ⟨rfl, Do.load tf_flat9 rfl (Cell.own 1 0 rfl rfl rfl)⟩⟩, .inr ⟨_, rfl, rfl, .inl ⟨rfl, Do.move rfl⟩⟩, .inr ⟨_, rfl, rfl, .inl ⟨rfl, Do.move rfl⟩⟩, .inr ⟨_, rfl, rfl, .inl ⟨rfl, Do.sliceS (l := y) 0 k rfl (evBound_some rfl rfl) (by omega) (by omega) Tryz.underlying9 rfl⟩⟩, .inr ⟨_, rfl, rfl, .inl ⟨rfl, Do.cat rfl rfl (by simp only [List.length_append, List.length_cons, List.length_nil, subl_len hk2]; omega)⟩⟩, .inr ⟨_, rfl, rfl, .inl ⟨rfl, Do.cat rfl rfl (by simp only [List.length_append, List.length_cons, List.length_nil, subl_len hk2]; omega)⟩⟩, .inr ⟨_, rfl, rfl, .inl ⟨rfl, Do.build (cs := [str n, str (([120] ++ (subl y 0 k)) ++ [120])]) tf_lay78 rfl rfl⟩⟩, trivial⟩, List.cons_ne_nil _ _, by kernel_rfl, by kernel_rfl, ⟨_, rfl, rfl, rfl, _, Do.own1 tyField (l := ([(n, ([120] ++ (subl y 0 k)) ++ [120])] : List (List UInt8 × List UInt8))) (Do.buildSlice (cs := [str n, str (([120] ++ (subl y 0 k)) ++ [120])]) Tryz.underlying45 tf_zero78 tf_sz78 rfl rfl rfl rfl) rfl rfl (by first | decide | simp), ?_⟩, trivial⟩
        rintro _ _ ⟨b11, s12, o13, rfl, rfl⟩
        refine ⟨[(9, .agg #[str [65], str [47], .int .i64 0, .slice (some ⟨b11, 0, none⟩) ([(n, ([120] ++ (subl y 0 k)) ++ [120])]).length 1])], [11], rfl, ?_⟩
        refine ⟨⟨.inr ⟨_, rfl, rfl, .inl ⟨rfl, Do.build (cs := [str [65], str [47], .int .i64 0, .slice (some ⟨b11, 0, none⟩) ([(n, ([120] ++ (subl y 0 k)) ++ [120])]).length 1]) tf_lay47 rfl rfl⟩⟩, .inl (by kernel_rfl), .inl (by kernel_rfl), .inl (by kernel_rfl), .inl (by kernel_rfl), .inl (by kernel_rfl), .inl (by kernel_rfl), .inl (by kernel_rfl), .inl (by kernel_rfl), trivial⟩, List.cons_ne_nil _ _, by kernel_rfl, by kernel_rfl, ⟨_, rfl, rfl, rfl, _, Do.store (H' := s12 :: [(b9, .cells #[str [65], str [47], .int .i64 0, .slice (some ⟨b11, 0, none⟩) ([(n, ([120] ++ (subl y 0 k)) ++ [120])]).length 1] 47 (0, 0))] :: [(b1, .cells #[str n, str v] 78 (0, 0))] :: H) 1 0 tf_sz47 rfl rfl rfl rfl rfl rfl rfl rfl rfl, ?_⟩, trivial⟩
        rintro _ _ ⟨rfl, rfl⟩
        refine ⟨[], [], rfl, ?_⟩
        refine ⟨⟨.inl (by kernel_rfl), .inl (by kernel_rfl), .inl (by kernel_rfl), .inl (by kernel_rfl), .inl (by kernel_rfl), .inl (by kernel_rfl), .inl (by kernel_rfl), .inl (by kernel_rfl), .inl (by kernel_rfl), trivial⟩, by kernel_rfl, ?_⟩
        refine At.pick (H' := [(b9, .cells #[str [65], str [47], .int .i64 0, .slice (some ⟨b11, 0, none⟩) ([(n, ([120] ++ (subl y 0 k)) ++ [120])]).length 1] 47 (0, 0))] :: s12 :: [(b1, .cells #[str n, str v] 78 (0, 0))] :: H) [1, 0, 2] 3 rfl rfl ?_
        exact J _ _ ⟨b9, ⟨(some ⟨b11, 0, none⟩), 1, [(n, ([120] ++ (subl y 0 k)) ++ [120])], s12, o13⟩, rfl, ⟨rfl, rfl, rfl, rfl, trivial⟩, rfl⟩
    · skip
      rintro E2 H2 ⟨b5, xs3, hxs3, hsub, rfl⟩
      refine At.mono hsub ?_
      clear hsub
      obtain ⟨Axs3, Cxs3, lxs3, sxs3, oxs3⟩ := xs3
      dsimp only at hxs3 ⊢
      obtain rfl : [(n, ([120] ++ (subl y 0 k)) ++ [120])] = lxs3 := hxs3.symm
      refine At.seq ?_
      refine At.seq ?_
      refine At.region ?_
      refine AtL.loadN (cs := [str [65], str [47], .int .i64 0, .slice Axs3 ([(n, ([120] ++ (subl y 0 k)) ++ [120])]).length Cxs3]) tf_agg47 (.inl rfl) rfl rfl rfl (cellsOwn 0 0 0 rfl rfl rfl) ?_
      refine AtL.call tf_body155 (.inl rfl) rfl rfl (check_ok (m := [65]) (t := [47]) (minor := 0) (fs := [(n, ([120] ++ (subl y 0 k)) ++ [120])]) (oxs3.rd (i := 1) rfl) (by simp) (by simp only [szF, List.map_cons, List.map_nil, List.sum_cons, List.sum_nil, List.length_append, List.length_cons, List.length_nil, subl_len hk2]; omega)) ?_
      rintro _ _ ⟨rfl, rfl⟩
      refine AtL.nei (.inl rfl) rfl rfl rfl ?_
      refine AtL.done ?_
      refine At.cond rfl ?_ ?_
      · intro hc2
        have hc2 : ¬ ((writeE ⟨[65], [47], 0, [(n, ([120] ++ (subl y 0 k)) ++ [120])]⟩ : Int) = 0) := of_decide_eq_false (bnot_true hc2)
        refine At.seq ?_
        refine At.region ?_
        refine AtL.assign (.inl rfl) rfl rfl ?_
        refine AtL.done ?_
        refine At.pick (H' := H) [] 3 rfl rfl ?_
        exact At.ret Tryz.func107 rfl rfl (⟨congrArg Value.bool (fine_no hf hc2 hk1 hk2).symm, rfl⟩)
      · intro hc2
        have hc2 : (writeE ⟨[65], [47], 0, [(n, ([120] ++ (subl y 0 k)) ++ [120])]⟩ : Int) = 0 := of_decide_eq_true (bnot_false hc2)
        have hf2 := fine_next hf hc2 hk1 hk2
        refine At.skip ?_
        refine At.seq ?_
        refine At.region ?_
        refine AtL.move (.inl rfl) rfl rfl ?_
        refine AtL.move (.inl rfl) rfl rfl ?_
        refine AtL.sliceS (l := y) k y.length (evBound_some rfl rfl) rfl (by omega) (by omega) Tryz.underlying9 (.inl rfl) rfl rfl ?_
        refine AtL.assign (.inl rfl) rfl rfl ?_
        refine AtL.done ?_
        refine At.seq ?_
        refine At.region ?_
        refine AtL.move (.inl rfl) rfl rfl ?_
        refine AtL.eqs (a := subl y k y.length) (b := []) (.inl rfl) rfl rfl rfl ?_
        refine AtL.done ?_
        refine At.cond rfl ?_ ?_
        · intro hc3
          have hc3 : subl y k y.length = [] := of_decide_eq_true hc3
          refine At.seq ?_
          refine At.region ?_
          refine AtL.assign (.inl rfl) rfl rfl ?_
          refine AtL.done ?_
          refine At.pick (H' := H) [] 3 rfl rfl ?_
          exact At.ret Tryz.func107 rfl rfl (⟨congrArg Value.bool (by rw [hc3, hf2.2] at hf2; exact hf2.1), rfl⟩)
        · intro hc3
          have hc3 : ¬ (subl y k y.length = []) := of_decide_eq_false hc3
          refine At.skip ?_
          refine At.inBlock ?_
          refine At.pick (H' := [(b1, .cells #[str n, str v] 78 (0, 0))] :: H) [2] 3 rfl rfl ?_
          refine ihL1 (subl y k y.length) (⟨hf2.1, by rw [subl_len (Nat.le_refl _)]; omega⟩) (by have h0 : (subl y k y.length).length ≠ 0 := fun h => hc3 (List.eq_nil_of_length_eq_zero h); rw [subl_len (Nat.le_refl _)] at h0 ⊢; omega) _ ?_
          exact ⟨rfl, (by first | rfl | exact slLen (by simp []) | exact intEq (by omega) | exact intEq (by simp []) | exact slLen (by simp []; omega)), trivial⟩

theorem chk_head {r : RespV} (h : (reasonF r.st = [] ∨ (16 : Int) < (r.fs.length : Int)) ∨ (65535 : Int) < (r.body.length : Int)) : respE r = 2 := by
  unfold respE
  rw [if_neg]
  intro ho
  simp only [okR, Bool.and_eq_true, decide_eq_true_eq] at ho
  obtain ⟨⟨⟨⟨h1, h2⟩, h3⟩, _⟩, _⟩ := ho
  rcases h with (h | h) | h
  · exact h1 h
  · omega
  · omega
theorem chk_bad {r : RespV} {k : Nat} (hk : k < r.fs.length) (h : fldR (r.fs.getD k (([], []) : List UInt8 × List UInt8)) = false ∨ 4096 < sumF (r.fs.take (k + 1))) : respE r = 2 := by
  unfold respE
  rw [if_neg]
  intro ho
  simp only [okR, Bool.and_eq_true, decide_eq_true_eq] at ho
  obtain ⟨⟨_, h4⟩, h5⟩ := ho
  rcases h with h | h
  · rw [List.all_eq_true.1 h4 _ (getD_mem hk)] at h; cases h
  · have := sumF_take r.fs (k + 1); omega
theorem chk_long {r : RespV} (h : 4096 < sumF r.fs) : respE r = 2 := by
  unfold respE
  rw [if_neg]
  intro ho
  simp only [okR, Bool.and_eq_true, decide_eq_true_eq] at ho
  omega
theorem chk_ok {r : RespV} (h : ¬ ((reasonF r.st = [] ∨ (16 : Int) < (r.fs.length : Int)) ∨ (65535 : Int) < (r.body.length : Int))) {k : Nat} (hk : r.fs.length ≤ k) (ha : (r.fs.take k).all fldR = true) (hs : sumF (r.fs.take k) ≤ 4096) : respE r = 0 := by
  rw [List.take_of_length_le hk] at ha hs
  unfold respE
  rw [if_pos]
  simp only [not_or] at h
  obtain ⟨⟨h1, h2⟩, h3⟩ := h
  simp only [okR, ha, Bool.and_eq_true, decide_eq_true_eq]
  exact ⟨⟨⟨⟨h1, by omega⟩, by omega⟩, trivial⟩, hs⟩
theorem fldR_no1 {f : Fld} (h : ownF f = true) : fldR f = false := by rw [fldR, h]; simp
theorem fldR_no2 {f : Fld} (h : fieldOk f = false) : fldR f = false := by rw [fldR, h]; rfl
theorem fldR_no3 {f : Fld} (h : wordF f.1 64 = false) : fldR f = false := by rw [fldR, fieldOk, h]; rfl
theorem fldR_no4 {f : Fld} (h : valueF f.2 = false) : fldR f = false := by rw [fldR, fieldOk, h]; simp
theorem fldR_yes {f : Fld} (h1 : ¬ ownF f = true) (h2 : ¬ fieldOk f = false) : fldR f = true := by
  rw [fldR]; cases h3 : ownF f <;> cases h4 : fieldOk f <;> simp_all
theorem fldR_yes2 {f : Fld} (h1 : ¬ wordF f.1 64 = false) (h2 : ¬ valueF f.2 = false) (h3 : ¬ ownF f = true) : fldR f = true :=
  fldR_yes h3 (by rw [fieldOk]; cases h4 : wordF f.1 64 <;> cases h5 : valueF f.2 <;> simp_all)

theorem all_snoc {p : Fld → Bool} {fs : List Fld} {k : Nat} (h : k < fs.length) (ha : (fs.take k).all p = true) (hp : p (fs.getD k (([], []) : List UInt8 × List UInt8)) = true) : (fs.take (k + 1)).all p = true := by
  rw [List.take_succ_eq_append_getElem h, List.all_append, ha]
  simpa [List.getD, h] using hp

set_option maxHeartbeats 400000 in
theorem rchk_ok0 {w0 : World} {base : Nat} {H : List Seg} {st : Int} {A A2 : Option Addr} {C C2 : Nat} {fs : List (List UInt8 × List UInt8)} {b : List UInt8} {kp : Bool} (h : Rd tyField w0 base H A C fs) (h2 : Rd tyB w0 base H A2 C2 b) (hb : ∀ f ∈ fs, f.1.length ≤ 140737488355000 ∧ f.2.length ≤ 140737488355000) :
    SCalls Tryz.prog 62 [.agg #[.int .i64 st, .slice A fs.length C, .slice A2 b.length C2, .bool kp]] w0 base (H) (fun u H' => u = int (respE ⟨st, fs, b, kp⟩) ∧ H' = H) := by
  have hle0 := h.le
  have hcap0 := h.cap
  have hle2 := h2.le
  have hcap2 := h2.cap
  refine SCalls.of_walk (n := 50) Tryz.func62 rfl rfl rfl fun cs => ?_
  refine At.seq ?_
  refine At.region ?_
  refine AtL.box (cs := #[.int .i64 st, .slice A fs.length C, .slice A2 b.length C2, .bool kp]) rfl (.inl rfl) rfl rfl ?_
  intro b1
  refine AtL.assign (.inl rfl) rfl rfl ?_
  refine AtL.done ?_
  refine At.seq ?_
  refine At.seq ?_
  refine At.region ?_
  refine AtL.fieldAddrB tf_fo74_0 (.inl rfl) rfl rfl rfl ?_
  refine AtL.load tf_flat3 (.inl rfl) rfl rfl (Cell.own 0 0 rfl rfl rfl) ?_
  refine AtL.call tf_body65 (.inl rfl) rfl rfl (reason_ok st) ?_
  rintro _ _ ⟨rfl, rfl⟩
  refine AtL.eqs (a := reasonF st) (b := []) (.inl rfl) rfl rfl rfl ?_
  refine AtL.move (.inl rfl) rfl rfl ?_
  refine AtL.join 5 (E' := [(15, .bool (decide ((reasonF st = []) ∨ (16 < (fs.length : Int))))), (1, .pointer (some ⟨b1, 0, none⟩))]) (H' := [(b1, .cells #[.int .i64 st, .slice A fs.length C, .slice A2 b.length C2, .bool kp] 74 (0, 0))] :: H) (fun J => ?_) ?_
  · refine AtL.split (t := 10) rfl ?_ ?_
    · intro hs10
      have hs10 : reasonF st = [] := of_decide_eq_true hs10
      refine AtL.skipped rfl rfl rfl rfl rfl rfl ?_
      refine AtL.skipped rfl rfl rfl rfl rfl rfl ?_
      refine AtL.skipped rfl rfl rfl rfl rfl rfl ?_
      refine AtL.skipped rfl rfl rfl rfl rfl rfl ?_
      refine AtL.pickT (.inl rfl) rfl rfl rfl ?_
      exact J _ (by exact ⟨(boolIs (by clear J; first | (simp [hs10]; done) | (simp_all; done) | grind)), rfl, trivial⟩)
    · intro hs10
      have hs10 : ¬ (reasonF st = []) := of_decide_eq_false hs10
      refine AtL.fieldAddrB tf_fo74_1 (.inr ⟨_, _, _, rfl, rfl, rfl, rfl⟩) rfl rfl rfl ?_
      refine AtL.load tf_flat45 (.inr ⟨_, _, _, rfl, rfl, rfl, rfl⟩) rfl rfl (Cell.own 0 0 rfl rfl rfl) ?_
      refine AtL.lenL Tryz.underlying45 (.inr ⟨_, _, _, rfl, rfl, rfl, rfl⟩) rfl rfl ?_
      refine AtL.gtr (.inr ⟨_, _, _, rfl, rfl, rfl, rfl⟩) rfl rfl rfl ?_
      refine AtL.pickF (.inl rfl) rfl rfl rfl ?_
      exact J _ (by exact ⟨(boolIs (by clear J; first | (simp [hs10]; done) | (simp_all; done) | grind)), rfl, trivial⟩)
  · skip
    refine AtL.move (.inl rfl) rfl rfl ?_
    refine AtL.join 5 (E' := [(21, .bool (decide (((reasonF st = []) ∨ (16 < (fs.length : Int))) ∨ (65535 < (b.length : Int))))), (1, .pointer (some ⟨b1, 0, none⟩))]) (H' := [(b1, .cells #[.int .i64 st, .slice A fs.length C, .slice A2 b.length C2, .bool kp] 74 (0, 0))] :: H) (fun J => ?_) ?_
    · refine AtL.split (t := 16) rfl ?_ ?_
      · intro hs16
        have hs16 : (reasonF st = []) ∨ (16 < (fs.length : Int)) := of_decide_eq_true hs16
        refine AtL.skipped rfl rfl rfl rfl rfl rfl ?_
        refine AtL.skipped rfl rfl rfl rfl rfl rfl ?_
        refine AtL.skipped rfl rfl rfl rfl rfl rfl ?_
        refine AtL.skipped rfl rfl rfl rfl rfl rfl ?_
        refine AtL.pickT (.inl rfl) rfl rfl rfl ?_
        exact J _ (by exact ⟨(boolIs (by clear J; first | (simp [hs16]; done) | (simp_all; done) | grind)), rfl, trivial⟩)
      · intro hs16
        have hs16 : ¬ ((reasonF st = []) ∨ (16 < (fs.length : Int))) := of_decide_eq_false hs16
        refine AtL.fieldAddrB tf_fo74_2 (.inr ⟨_, _, _, rfl, rfl, rfl, rfl⟩) rfl rfl rfl ?_
        refine AtL.load tf_flat22 (.inr ⟨_, _, _, rfl, rfl, rfl, rfl⟩) rfl rfl (Cell.own 0 0 rfl rfl rfl) ?_
        refine AtL.lenL Tryz.underlying22 (.inr ⟨_, _, _, rfl, rfl, rfl, rfl⟩) rfl rfl ?_
        refine AtL.gtr (.inr ⟨_, _, _, rfl, rfl, rfl, rfl⟩) rfl rfl rfl ?_
        refine AtL.pickF (.inl rfl) rfl rfl rfl ?_
        exact J _ (by exact ⟨(boolIs (by clear J; first | (simp [hs16]; done) | (simp_all; done) | grind)), rfl, trivial⟩)
    · skip
      refine AtL.done ?_
      refine At.cond rfl ?_ ?_
      · intro hc1
        have hc1 : ((reasonF st = []) ∨ (16 < (fs.length : Int))) ∨ (65535 < (b.length : Int)) := of_decide_eq_true hc1
        refine At.seq ?_
        refine At.region ?_
        refine AtL.assign (.inl rfl) rfl rfl ?_
        refine AtL.done ?_
        refine At.pick (H' := H) [] 1 rfl rfl ?_
        exact At.ret Tryz.func62 rfl rfl (⟨congrArg int (chk_head (r := ⟨st, fs, b, kp⟩) hc1).symm, rfl⟩)
      · intro hc1
        have hc1 : ¬ (((reasonF st = []) ∨ (16 < (fs.length : Int))) ∨ (65535 < (b.length : Int))) := of_decide_eq_false hc1
        have hfl : fs.length ≤ 1000 := by by_cases hx : (16 : Int) < (fs.length : Int); exact absurd (.inl (.inr hx)) hc1; omega
        refine At.skip ?_
        refine At.seq ?_
        refine At.region ?_
        refine AtL.assign (.inl rfl) rfl rfl ?_
        refine AtL.done ?_
        refine At.seq ?_
        refine At.seq ?_
        refine At.region ?_
        refine AtL.fieldAddrB tf_fo74_1 (.inl rfl) rfl rfl rfl ?_
        refine AtL.load tf_flat45 (.inl rfl) rfl rfl (Cell.own 0 0 rfl rfl rfl) ?_
        refine AtL.lenL Tryz.underlying45 (.inl rfl) rfl rfl ?_
        refine AtL.move (.inl rfl) rfl rfl ?_
        refine AtL.done ?_
        refine At.block ?_
        refine At.loop2 (fun (k : Nat) (s : Nat) => [(3, .int .i64 (s : Int)), (23, .slice A fs.length C), (24, .int .i64 (fs.length : Int)), (25, .int .i64 (k : Int))]) (fun (k : Nat) (s : Nat) => [(b1, .cells #[.int .i64 st, .slice A fs.length C, .slice A2 b.length C2, .bool kp] 74 (0, 0))] :: H) (fun (k : Nat) (s : Nat) => k ≤ fs.length ∧ (fs.take k).all fldR = true ∧ s = sumF (fs.take k) ∧ s ≤ 4096) (fun (k : Nat) (s : Nat) => fs.length - k) 0 0 (⟨Nat.zero_le _, rfl, rfl, by omega⟩) ⟨rfl, rfl, rfl, rfl, trivial⟩ rfl ?_
        rintro k s ⟨hk, ha, hs, hsb⟩ ihL1
        refine At.seq ?_
        refine At.region ?_
        refine AtL.lss (.inl rfl) rfl rfl rfl ?_
        refine AtL.done ?_
        refine At.seq ?_
        refine At.cond rfl ?_ ?_
        · intro hc2
          have hc2 : (k : Int) < (fs.length : Int) := of_decide_eq_true hc2
          have hbk := hb _ (getD_mem (l := fs) (i := k) (d := (([], []) : List UInt8 × List UInt8)) (by omega))
          refine At.skip ?_
          refine At.seq ?_
          refine At.block ?_
          refine At.seq ?_
          refine At.region ?_
          refine AtL.indexL k (Rd.skip 1 h) Tryz.underlying45 tf_sz78 (.inl rfl) rfl rfl rfl rfl (by omega) ?_
          refine AtL.loadE (n := 0) (Rd.skip 1 h) (getD_some (([], []) : List UInt8 × List UInt8) (by omega)) rfl tf_agg78 (.inl rfl) rfl rfl ?_
          refine AtL.alloc tf_zero78 (cs := #[str [], str []]) rfl (.inl rfl) rfl ?_
          intro b2
          refine AtL.store (H' := [(b2, .cells #[str ((fs.getD k (([], []) : List UInt8 × List UInt8)).1), str ((fs.getD k (([], []) : List UInt8 × List UInt8)).2)] 78 (0, 0))] :: [(b1, .cells #[.int .i64 st, .slice A fs.length C, .slice A2 b.length C2, .bool kp] 74 (0, 0))] :: H) 0 0 tf_sz78 (.inl rfl) rfl rfl rfl rfl rfl rfl rfl rfl rfl ?_
          refine AtL.done ?_
          refine At.seq ?_
          refine At.region ?_
          refine AtL.move (.inl rfl) rfl rfl ?_
          refine AtL.fieldAddrB tf_fo78_0 (.inl rfl) rfl rfl rfl ?_
          refine AtL.load tf_flat9 (.inl rfl) rfl rfl (Cell.own 0 0 rfl rfl rfl) ?_
          refine AtL.lenS (l := (fs.getD k (([], []) : List UInt8 × List UInt8)).1) Tryz.underlying9 (.inl rfl) rfl rfl ?_
          refine AtL.fieldAddrB tf_fo78_1 (.inl rfl) rfl rfl rfl ?_
          refine AtL.load tf_flat9 (.inl rfl) rfl rfl (Cell.own 0 0 rfl rfl rfl) ?_
          refine AtL.lenS (l := (fs.getD k (([], []) : List UInt8 × List UInt8)).2) Tryz.underlying9 (.inl rfl) rfl rfl ?_
          refine AtL.add (z := (((fs.getD k (([], []) : List UInt8 × List UInt8)).1).length : Int) + (((fs.getD k (([], []) : List UInt8 × List UInt8)).2).length : Int)) (.inl rfl) rfl rfl rfl (w64 (by omega) (by omega)) ?_
          refine AtL.add (z := (s : Int) + ((((fs.getD k (([], []) : List UInt8 × List UInt8)).1).length : Int) + (((fs.getD k (([], []) : List UInt8 × List UInt8)).2).length : Int))) (.inl rfl) rfl rfl rfl (w64 (by omega) (by omega)) ?_
          refine AtL.assign (.inl rfl) rfl rfl ?_
          refine AtL.done ?_
          refine At.seq ?_
          refine At.region ?_
          refine AtL.move (.inl rfl) rfl rfl ?_
          refine AtL.gtr (.inl rfl) rfl rfl rfl ?_
          refine AtL.move (.inl rfl) rfl rfl ?_
          refine AtL.join 3 (E' := [(43, .bool (decide ((4096 < ((s : Int) + ((((fs.getD k (([], []) : List UInt8 × List UInt8)).1).length : Int) + (((fs.getD k (([], []) : List UInt8 × List UInt8)).2).length : Int)))) ∨ ((ownF ((fs.getD k (([], []) : List UInt8 × List UInt8)).1, (fs.getD k (([], []) : List UInt8 × List UInt8)).2)) = true)))), (3, .int .i64 ((s : Int) + ((((fs.getD k (([], []) : List UInt8 × List UInt8)).1).length : Int) + (((fs.getD k (([], []) : List UInt8 × List UInt8)).2).length : Int)))), (5, .pointer (some ⟨b2, 0, none⟩)), (23, .slice A fs.length C), (24, .int .i64 (fs.length : Int)), (25, .int .i64 (k : Int))]) (H' := [(b2, .cells #[str ((fs.getD k (([], []) : List UInt8 × List UInt8)).1), str ((fs.getD k (([], []) : List UInt8 × List UInt8)).2)] 78 (0, 0))] :: [(b1, .cells #[.int .i64 st, .slice A fs.length C, .slice A2 b.length C2, .bool kp] 74 (0, 0))] :: H) (fun J => ?_) ?_
          · refine AtL.split (t := 40) rfl ?_ ?_
            · intro hs40
              have hs40 : 4096 < ((s : Int) + ((((fs.getD k (([], []) : List UInt8 × List UInt8)).1).length : Int) + (((fs.getD k (([], []) : List UInt8 × List UInt8)).2).length : Int))) := of_decide_eq_true hs40
              refine AtL.skipped rfl rfl rfl rfl rfl rfl ?_
              refine AtL.skipped rfl rfl rfl rfl rfl rfl ?_
              refine AtL.pickT (.inl rfl) rfl rfl rfl ?_
              exact J _ (by exact ⟨(boolIs (by clear J; first | (simp [hs40]; done) | (simp_all; done) | grind)), rfl, rfl, rfl, rfl, rfl, trivial⟩)
            · intro hs40
              have hs40 : ¬ (4096 < ((s : Int) + ((((fs.getD k (([], []) : List UInt8 × List UInt8)).1).length : Int) + (((fs.getD k (([], []) : List UInt8 × List UInt8)).2).length : Int)))) := of_decide_eq_false hs40
              refine AtL.loadN (cs := [str ((fs.getD k (([], []) : List UInt8 × List UInt8)).1), str ((fs.getD k (([], []) : List UInt8 × List UInt8)).2)]) tf_agg78 (.inr ⟨_, _, _, rfl, rfl, rfl, rfl⟩) rfl rfl rfl (cellsOwn 0 0 0 rfl rfl rfl) ?_
              refine AtL.call tf_body106 (.inr ⟨_, _, _, rfl, rfl, rfl, rfl⟩) rfl rfl (own_ok (n := (fs.getD k (([], []) : List UInt8 × List UInt8)).1) (v := (fs.getD k (([], []) : List UInt8 × List UInt8)).2) (by omega) (by omega)) ?_
              rintro _ _ ⟨rfl, rfl⟩
              refine AtL.pickF (.inl rfl) rfl rfl rfl ?_
              exact J _ (by exact ⟨(boolIs (by clear J; first | (simp [hs40]; done) | (simp_all; done) | grind)), rfl, rfl, rfl, rfl, rfl, trivial⟩)
          · skip
            refine AtL.move (.inl rfl) rfl rfl ?_
            refine AtL.join 4 (E' := [(48, .bool (decide (((4096 < ((s : Int) + ((((fs.getD k (([], []) : List UInt8 × List UInt8)).1).length : Int) + (((fs.getD k (([], []) : List UInt8 × List UInt8)).2).length : Int)))) ∨ ((ownF ((fs.getD k (([], []) : List UInt8 × List UInt8)).1, (fs.getD k (([], []) : List UInt8 × List UInt8)).2)) = true)) ∨ ((fieldOk ((fs.getD k (([], []) : List UInt8 × List UInt8)).1, (fs.getD k (([], []) : List UInt8 × List UInt8)).2)) = false)))), (3, .int .i64 ((s : Int) + ((((fs.getD k (([], []) : List UInt8 × List UInt8)).1).length : Int) + (((fs.getD k (([], []) : List UInt8 × List UInt8)).2).length : Int)))), (23, .slice A fs.length C), (24, .int .i64 (fs.length : Int)), (25, .int .i64 (k : Int))]) (H' := [(b2, .cells #[str ((fs.getD k (([], []) : List UInt8 × List UInt8)).1), str ((fs.getD k (([], []) : List UInt8 × List UInt8)).2)] 78 (0, 0))] :: [(b1, .cells #[.int .i64 st, .slice A fs.length C, .slice A2 b.length C2, .bool kp] 74 (0, 0))] :: H) (fun J => ?_) ?_
            · refine AtL.split (t := 44) rfl ?_ ?_
              · intro hs44
                have hs44 : (4096 < ((s : Int) + ((((fs.getD k (([], []) : List UInt8 × List UInt8)).1).length : Int) + (((fs.getD k (([], []) : List UInt8 × List UInt8)).2).length : Int)))) ∨ ((ownF ((fs.getD k (([], []) : List UInt8 × List UInt8)).1, (fs.getD k (([], []) : List UInt8 × List UInt8)).2)) = true) := of_decide_eq_true hs44
                refine AtL.skipped rfl rfl rfl rfl rfl rfl ?_
                refine AtL.skipped rfl rfl rfl rfl rfl rfl ?_
                refine AtL.skipped rfl rfl rfl rfl rfl rfl ?_
                refine AtL.pickT (.inl rfl) rfl rfl rfl ?_
                exact J _ (by exact ⟨(boolIs (by clear J; first | (simp [hs44]; done) | (simp_all; done) | grind)), rfl, rfl, rfl, rfl, trivial⟩)
              · intro hs44
                have hs44 : ¬ ((4096 < ((s : Int) + ((((fs.getD k (([], []) : List UInt8 × List UInt8)).1).length : Int) + (((fs.getD k (([], []) : List UInt8 × List UInt8)).2).length : Int)))) ∨ ((ownF ((fs.getD k (([], []) : List UInt8 × List UInt8)).1, (fs.getD k (([], []) : List UInt8 × List UInt8)).2)) = true)) := of_decide_eq_false hs44
                refine AtL.loadN (cs := [str ((fs.getD k (([], []) : List UInt8 × List UInt8)).1), str ((fs.getD k (([], []) : List UInt8 × List UInt8)).2)]) tf_agg78 (.inr ⟨_, _, _, rfl, rfl, rfl, rfl⟩) rfl rfl rfl (cellsOwn 0 0 0 rfl rfl rfl) ?_
                refine AtL.call tf_body107 (.inr ⟨_, _, _, rfl, rfl, rfl, rfl⟩) rfl rfl (pfine_ok (n := (fs.getD k (([], []) : List UInt8 × List UInt8)).1) (v := (fs.getD k (([], []) : List UInt8 × List UInt8)).2) (by omega) (by omega)) ?_
                rintro _ _ ⟨rfl, rfl⟩
                refine AtL.not (.inr ⟨_, _, _, rfl, rfl, rfl, rfl⟩) rfl rfl ?_
                refine AtL.pickF (.inl rfl) rfl rfl rfl ?_
                exact J _ (by exact ⟨(boolIs (by clear J; first | (simp [hs44]; done) | (simp_all; done) | grind)), rfl, rfl, rfl, rfl, trivial⟩)
            · skip
              refine AtL.done ?_
              refine At.cond rfl ?_ ?_
              · intro hc3
                have hc3 : ((4096 < ((s : Int) + ((((fs.getD k (([], []) : List UInt8 × List UInt8)).1).length : Int) + (((fs.getD k (([], []) : List UInt8 × List UInt8)).2).length : Int)))) ∨ ((ownF ((fs.getD k (([], []) : List UInt8 × List UInt8)).1, (fs.getD k (([], []) : List UInt8 × List UInt8)).2)) = true)) ∨ ((fieldOk ((fs.getD k (([], []) : List UInt8 × List UInt8)).1, (fs.getD k (([], []) : List UInt8 × List UInt8)).2)) = false) := of_decide_eq_true hc3
                refine At.seq ?_
                refine At.region ?_
                refine AtL.assign (.inl rfl) rfl rfl ?_
                refine AtL.done ?_
                refine At.pick (H' := H) [] 2 rfl rfl ?_
                exact At.ret Tryz.func62 rfl rfl (⟨congrArg int (chk_bad (r := ⟨st, fs, b, kp⟩) (k := k) (by show k < fs.length; omega) (by rcases hc3 with (h | h) | h; exact .inr (by show 4096 < sumF (fs.take (k + 1)); rw [sumF_snoc fs k (by omega), ← hs]; omega); exact .inl (fldR_no1 h); exact .inl (fldR_no2 h))).symm, rfl⟩)
              · intro hc3
                have hc3 : ¬ (((4096 < ((s : Int) + ((((fs.getD k (([], []) : List UInt8 × List UInt8)).1).length : Int) + (((fs.getD k (([], []) : List UInt8 × List UInt8)).2).length : Int)))) ∨ ((ownF ((fs.getD k (([], []) : List UInt8 × List UInt8)).1, (fs.getD k (([], []) : List UInt8 × List UInt8)).2)) = true)) ∨ ((fieldOk ((fs.getD k (([], []) : List UInt8 × List UInt8)).1, (fs.getD k (([], []) : List UInt8 × List UInt8)).2)) = false)) := of_decide_eq_false hc3
                simp only [not_or] at hc3
                have hfR : fldR (fs.getD k (([], []) : List UInt8 × List UInt8)) = true := fldR_yes hc3.1.2 hc3.2
                have hall2 := all_snoc (p := fldR) (by omega) ha hfR
                refine At.skip ?_
                refine At.inBlock ?_
                refine At.region ?_
                refine AtL.add (z := (k : Int) + 1) (.inl rfl) rfl rfl rfl (w64 (by omega) (by omega)) ?_
                refine AtL.move (.inl rfl) rfl rfl ?_
                refine AtL.done ?_
                refine At.pick (H' := [(b1, .cells #[.int .i64 st, .slice A fs.length C, .slice A2 b.length C2, .bool kp] 74 (0, 0))] :: H) [1] 2 rfl rfl ?_
                refine ihL1 (k + 1) (s + ((((fs.getD k (([], []) : List UInt8 × List UInt8)).1).length) + (((fs.getD k (([], []) : List UInt8 × List UInt8)).2).length))) (⟨by omega, hall2, by rw [sumF_snoc fs k (by omega), ← hs] <;> omega, by omega⟩) (by omega) _ ?_
                exact ⟨(by first | rfl | exact slLen (by simp []) | exact intEq (by omega) | exact intEq (by simp []) | exact slLen (by simp []; omega)), rfl, rfl, (by first | rfl | exact slLen (by simp []) | exact intEq (by omega) | exact intEq (by simp []) | exact slLen (by simp []; omega)), trivial⟩
        · intro hc2
          have hc2 : ¬ ((k : Int) < (fs.length : Int)) := of_decide_eq_false hc2
          refine At.exit rfl ?_
          refine At.seq ?_
          refine At.region ?_
          refine AtL.assign (.inl rfl) rfl rfl ?_
          refine AtL.done ?_
          refine At.pick (H' := H) [] 1 rfl rfl ?_
          exact At.ret Tryz.func62 rfl rfl (⟨congrArg int (chk_ok (r := ⟨st, fs, b, kp⟩) hc1 (by show fs.length ≤ k; omega) ha (by show sumF (fs.take k) ≤ 4096; omega)).symm, rfl⟩)

set_option maxHeartbeats 400000 in
theorem rrchk_ok0 {w0 : World} {base : Nat} {H : List Seg} {st : Int} {A A2 : Option Addr} {C C2 : Nat} {fs : List (List UInt8 × List UInt8)} {b : List UInt8} {kp : Bool} (h : Rd tyField w0 base H A C fs) (h2 : Rd tyB w0 base H A2 C2 b) (hb : ∀ f ∈ fs, f.1.length ≤ 140737488355000 ∧ f.2.length ≤ 140737488355000) :
    SCalls Tryz.prog 67 [.agg #[.int .i64 st, .slice A fs.length C, .slice A2 b.length C2, .bool kp]] w0 base (H) (fun u H' => u = int (respE ⟨st, fs, b, kp⟩) ∧ H' = H) := by
  have hle0 := h.le
  have hcap0 := h.cap
  have hle2 := h2.le
  have hcap2 := h2.cap
  refine SCalls.of_walk (n := 60) Tryz.func67 rfl rfl rfl fun cs => ?_
  refine At.seq ?_
  refine At.region ?_
  refine AtL.box (cs := #[.int .i64 st, .slice A fs.length C, .slice A2 b.length C2, .bool kp]) rfl (.inl rfl) rfl rfl ?_
  intro b1
  refine AtL.assign (.inl rfl) rfl rfl ?_
  refine AtL.done ?_
  refine At.seq ?_
  refine At.seq ?_
  refine At.region ?_
  refine AtL.fieldAddrB tf_fo74_0 (.inl rfl) rfl rfl rfl ?_
  refine AtL.load tf_flat3 (.inl rfl) rfl rfl (Cell.own 0 0 rfl rfl rfl) ?_
  refine AtL.call tf_body68 (.inl rfl) rfl rfl (rreason_ok st) ?_
  rintro _ _ ⟨rfl, rfl⟩
  refine AtL.eqs (a := reasonF st) (b := []) (.inl rfl) rfl rfl rfl ?_
  refine AtL.move (.inl rfl) rfl rfl ?_
  refine AtL.join 5 (E' := [(15, .bool (decide ((reasonF st = []) ∨ (16 < (fs.length : Int))))), (1, .pointer (some ⟨b1, 0, none⟩))]) (H' := [(b1, .cells #[.int .i64 st, .slice A fs.length C, .slice A2 b.length C2, .bool kp] 74 (0, 0))] :: H) (fun J => ?_) ?_
  · refine AtL.split (t := 10) rfl ?_ ?_
    · intro hs10
      have hs10 : reasonF st = [] := of_decide_eq_true hs10
      refine AtL.skipped rfl rfl rfl rfl rfl rfl ?_
      refine AtL.skipped rfl rfl rfl rfl rfl rfl ?_
      refine AtL.skipped rfl rfl rfl rfl rfl rfl ?_
      refine AtL.skipped rfl rfl rfl rfl rfl rfl ?_
      refine AtL.pickT (.inl rfl) rfl rfl rfl ?_
      exact J _ (by exact ⟨(boolIs (by clear J; first | (simp [hs10]; done) | (simp_all; done) | grind)), rfl, trivial⟩)
    · intro hs10
      have hs10 : ¬ (reasonF st = []) := of_decide_eq_false hs10
      refine AtL.fieldAddrB tf_fo74_1 (.inr ⟨_, _, _, rfl, rfl, rfl, rfl⟩) rfl rfl rfl ?_
      refine AtL.load tf_flat45 (.inr ⟨_, _, _, rfl, rfl, rfl, rfl⟩) rfl rfl (Cell.own 0 0 rfl rfl rfl) ?_
      refine AtL.lenL Tryz.underlying45 (.inr ⟨_, _, _, rfl, rfl, rfl, rfl⟩) rfl rfl ?_
      refine AtL.gtr (.inr ⟨_, _, _, rfl, rfl, rfl, rfl⟩) rfl rfl rfl ?_
      refine AtL.pickF (.inl rfl) rfl rfl rfl ?_
      exact J _ (by exact ⟨(boolIs (by clear J; first | (simp [hs10]; done) | (simp_all; done) | grind)), rfl, trivial⟩)
  · skip
    refine AtL.move (.inl rfl) rfl rfl ?_
    refine AtL.join 5 (E' := [(21, .bool (decide (((reasonF st = []) ∨ (16 < (fs.length : Int))) ∨ (65535 < (b.length : Int))))), (1, .pointer (some ⟨b1, 0, none⟩))]) (H' := [(b1, .cells #[.int .i64 st, .slice A fs.length C, .slice A2 b.length C2, .bool kp] 74 (0, 0))] :: H) (fun J => ?_) ?_
    · refine AtL.split (t := 16) rfl ?_ ?_
      · intro hs16
        have hs16 : (reasonF st = []) ∨ (16 < (fs.length : Int)) := of_decide_eq_true hs16
        refine AtL.skipped rfl rfl rfl rfl rfl rfl ?_
        refine AtL.skipped rfl rfl rfl rfl rfl rfl ?_
        refine AtL.skipped rfl rfl rfl rfl rfl rfl ?_
        refine AtL.skipped rfl rfl rfl rfl rfl rfl ?_
        refine AtL.pickT (.inl rfl) rfl rfl rfl ?_
        exact J _ (by exact ⟨(boolIs (by clear J; first | (simp [hs16]; done) | (simp_all; done) | grind)), rfl, trivial⟩)
      · intro hs16
        have hs16 : ¬ ((reasonF st = []) ∨ (16 < (fs.length : Int))) := of_decide_eq_false hs16
        refine AtL.fieldAddrB tf_fo74_2 (.inr ⟨_, _, _, rfl, rfl, rfl, rfl⟩) rfl rfl rfl ?_
        refine AtL.load tf_flat22 (.inr ⟨_, _, _, rfl, rfl, rfl, rfl⟩) rfl rfl (Cell.own 0 0 rfl rfl rfl) ?_
        refine AtL.lenL Tryz.underlying22 (.inr ⟨_, _, _, rfl, rfl, rfl, rfl⟩) rfl rfl ?_
        refine AtL.gtr (.inr ⟨_, _, _, rfl, rfl, rfl, rfl⟩) rfl rfl rfl ?_
        refine AtL.pickF (.inl rfl) rfl rfl rfl ?_
        exact J _ (by exact ⟨(boolIs (by clear J; first | (simp [hs16]; done) | (simp_all; done) | grind)), rfl, trivial⟩)
    · skip
      refine AtL.done ?_
      refine At.cond rfl ?_ ?_
      · intro hc1
        have hc1 : ((reasonF st = []) ∨ (16 < (fs.length : Int))) ∨ (65535 < (b.length : Int)) := of_decide_eq_true hc1
        refine At.seq ?_
        refine At.region ?_
        refine AtL.assign (.inl rfl) rfl rfl ?_
        refine AtL.done ?_
        refine At.pick (H' := H) [] 1 rfl rfl ?_
        exact At.ret Tryz.func67 rfl rfl (⟨congrArg int (chk_head (r := ⟨st, fs, b, kp⟩) hc1).symm, rfl⟩)
      · intro hc1
        have hc1 : ¬ (((reasonF st = []) ∨ (16 < (fs.length : Int))) ∨ (65535 < (b.length : Int))) := of_decide_eq_false hc1
        have hfl : fs.length ≤ 1000 := by by_cases hx : (16 : Int) < (fs.length : Int); exact absurd (.inl (.inr hx)) hc1; omega
        refine At.skip ?_
        refine At.seq ?_
        refine At.region ?_
        refine AtL.assign (.inl rfl) rfl rfl ?_
        refine AtL.done ?_
        refine At.seq ?_
        refine At.seq ?_
        refine At.region ?_
        refine AtL.assign (.inl rfl) rfl rfl ?_
        refine AtL.done ?_
        refine At.block ?_
        refine At.loop2 (fun (k : Nat) (s : Nat) => [(1, .pointer (some ⟨b1, 0, none⟩)), (3, .int .i64 (s : Int)), (4, .int .i64 (k : Int))]) (fun (k : Nat) (s : Nat) => [(b1, .cells #[.int .i64 st, .slice A fs.length C, .slice A2 b.length C2, .bool kp] 74 (0, 0))] :: H) (fun (k : Nat) (s : Nat) => k ≤ fs.length ∧ (fs.take k).all fldR = true ∧ s = sumF (fs.take k) ∧ s ≤ k * 281474976710000) (fun (k : Nat) (s : Nat) => fs.length - k) 0 0 (⟨Nat.zero_le _, rfl, rfl, by omega⟩) ⟨rfl, rfl, rfl, trivial⟩ rfl ?_
        rintro k s ⟨hk, ha, hs, hsb⟩ ihL1
        refine At.seq ?_
        refine At.seq ?_
        refine At.region ?_
        refine AtL.move (.inl rfl) rfl rfl ?_
        refine AtL.fieldAddrB tf_fo74_1 (.inl rfl) rfl rfl rfl ?_
        refine AtL.load tf_flat45 (.inl rfl) rfl rfl (Cell.own 0 0 rfl rfl rfl) ?_
        refine AtL.lenL Tryz.underlying45 (.inl rfl) rfl rfl ?_
        refine AtL.lss (.inl rfl) rfl rfl rfl ?_
        refine AtL.done ?_
        refine At.cond rfl ?_ ?_
        · intro hc2
          have hc2 : (k : Int) < (fs.length : Int) := of_decide_eq_true hc2
          have hbk := hb _ (getD_mem (l := fs) (i := k) (d := (([], []) : List UInt8 × List UInt8)) (by omega))
          refine At.skip ?_
          refine At.seq ?_
          refine At.block ?_
          refine At.seq ?_
          refine At.region ?_
          refine AtL.fieldAddrB tf_fo74_1 (.inl rfl) rfl rfl rfl ?_
          refine AtL.load tf_flat45 (.inl rfl) rfl rfl (Cell.own 0 0 rfl rfl rfl) ?_
          refine AtL.move (.inl rfl) rfl rfl ?_
          refine AtL.indexL k (Rd.skip 1 h) Tryz.underlying45 tf_sz78 (.inl rfl) rfl rfl rfl rfl (by omega) ?_
          refine AtL.loadE (n := 0) (Rd.skip 1 h) (getD_some (([], []) : List UInt8 × List UInt8) (by omega)) rfl tf_agg78 (.inl rfl) rfl rfl ?_
          refine AtL.alloc tf_zero78 (cs := #[str [], str []]) rfl (.inl rfl) rfl ?_
          intro b2
          refine AtL.store (H' := [(b2, .cells #[str ((fs.getD k (([], []) : List UInt8 × List UInt8)).1), str ((fs.getD k (([], []) : List UInt8 × List UInt8)).2)] 78 (0, 0))] :: [(b1, .cells #[.int .i64 st, .slice A fs.length C, .slice A2 b.length C2, .bool kp] 74 (0, 0))] :: H) 0 0 tf_sz78 (.inl rfl) rfl rfl rfl rfl rfl rfl rfl rfl rfl ?_
          refine AtL.done ?_
          refine At.seq ?_
          refine At.seq ?_
          refine At.region ?_
          refine AtL.fieldAddrB tf_fo78_0 (.inl rfl) rfl rfl rfl ?_
          refine AtL.load tf_flat9 (.inl rfl) rfl rfl (Cell.own 0 0 rfl rfl rfl) ?_
          refine AtL.call tf_body109 (.inl rfl) rfl rfl (rword_ok (l := (fs.getD k (([], []) : List UInt8 × List UInt8)).1) (by first | omega | (simp only [List.length_append, List.length_cons, List.length_nil]; omega) | (simp; done) | (simp; omega)) 64) ?_
          rintro _ _ ⟨rfl, rfl⟩
          refine AtL.not (.inl rfl) rfl rfl ?_
          refine AtL.move (.inl rfl) rfl rfl ?_
          refine AtL.join 5 (E' := [(43, .bool (decide (((wordF ((fs.getD k (([], []) : List UInt8 × List UInt8)).1) 64) = false) ∨ ((valueF ((fs.getD k (([], []) : List UInt8 × List UInt8)).2)) = false)))), (1, .pointer (some ⟨b1, 0, none⟩)), (3, .int .i64 (s : Int)), (4, .int .i64 (k : Int)), (5, .pointer (some ⟨b2, 0, none⟩))]) (H' := [(b2, .cells #[str ((fs.getD k (([], []) : List UInt8 × List UInt8)).1), str ((fs.getD k (([], []) : List UInt8 × List UInt8)).2)] 78 (0, 0))] :: [(b1, .cells #[.int .i64 st, .slice A fs.length C, .slice A2 b.length C2, .bool kp] 74 (0, 0))] :: H) (fun J => ?_) ?_
          · refine AtL.split (t := 38) rfl ?_ ?_
            · intro hs38
              have hs38 : (wordF ((fs.getD k (([], []) : List UInt8 × List UInt8)).1) 64) = false := bnot_true hs38
              refine AtL.skipped rfl rfl rfl rfl rfl rfl ?_
              refine AtL.skipped rfl rfl rfl rfl rfl rfl ?_
              refine AtL.skipped rfl rfl rfl rfl rfl rfl ?_
              refine AtL.skipped rfl rfl rfl rfl rfl rfl ?_
              refine AtL.pickT (.inl rfl) rfl rfl rfl ?_
              exact J _ (by exact ⟨(boolIs (by clear J; first | (simp [hs38]; done) | (simp_all; done) | grind)), rfl, rfl, rfl, rfl, trivial⟩)
            · intro hs38
              have hs38 : (wordF ((fs.getD k (([], []) : List UInt8 × List UInt8)).1) 64) = true := bnot_false hs38
              refine AtL.fieldAddrB tf_fo78_1 (.inr ⟨_, _, _, rfl, rfl, rfl, rfl⟩) rfl rfl rfl ?_
              refine AtL.load tf_flat9 (.inr ⟨_, _, _, rfl, rfl, rfl, rfl⟩) rfl rfl (Cell.own 0 0 rfl rfl rfl) ?_
              refine AtL.call tf_body110 (.inr ⟨_, _, _, rfl, rfl, rfl, rfl⟩) rfl rfl (rvalue_ok (l := (fs.getD k (([], []) : List UInt8 × List UInt8)).2) (by first | omega | (simp only [List.length_append, List.length_cons, List.length_nil]; omega) | (simp; done) | (simp; omega))) ?_
              rintro _ _ ⟨rfl, rfl⟩
              refine AtL.not (.inr ⟨_, _, _, rfl, rfl, rfl, rfl⟩) rfl rfl ?_
              refine AtL.pickF (.inl rfl) rfl rfl rfl ?_
              exact J _ (by exact ⟨(boolIs (by clear J; first | (simp [hs38]; done) | (simp_all; done) | grind)), rfl, rfl, rfl, rfl, trivial⟩)
          · skip
            refine AtL.move (.inl rfl) rfl rfl ?_
            refine AtL.join 4 (E' := [(48, .bool (decide ((((wordF ((fs.getD k (([], []) : List UInt8 × List UInt8)).1) 64) = false) ∨ ((valueF ((fs.getD k (([], []) : List UInt8 × List UInt8)).2)) = false)) ∨ ((ownF ((fs.getD k (([], []) : List UInt8 × List UInt8)).1, (fs.getD k (([], []) : List UInt8 × List UInt8)).2)) = true)))), (1, .pointer (some ⟨b1, 0, none⟩)), (3, .int .i64 (s : Int)), (4, .int .i64 (k : Int)), (5, .pointer (some ⟨b2, 0, none⟩))]) (H' := [(b2, .cells #[str ((fs.getD k (([], []) : List UInt8 × List UInt8)).1), str ((fs.getD k (([], []) : List UInt8 × List UInt8)).2)] 78 (0, 0))] :: [(b1, .cells #[.int .i64 st, .slice A fs.length C, .slice A2 b.length C2, .bool kp] 74 (0, 0))] :: H) (fun J => ?_) ?_
            · refine AtL.split (t := 44) rfl ?_ ?_
              · intro hs44
                have hs44 : ((wordF ((fs.getD k (([], []) : List UInt8 × List UInt8)).1) 64) = false) ∨ ((valueF ((fs.getD k (([], []) : List UInt8 × List UInt8)).2)) = false) := of_decide_eq_true hs44
                refine AtL.skipped rfl rfl rfl rfl rfl rfl ?_
                refine AtL.skipped rfl rfl rfl rfl rfl rfl ?_
                refine AtL.skipped rfl rfl rfl rfl rfl rfl ?_
                refine AtL.pickT (.inl rfl) rfl rfl rfl ?_
                exact J _ (by exact ⟨(boolIs (by clear J; first | (simp [hs44]; done) | (simp_all; done) | grind)), rfl, rfl, rfl, rfl, trivial⟩)
              · intro hs44
                have hs44 : ¬ (((wordF ((fs.getD k (([], []) : List UInt8 × List UInt8)).1) 64) = false) ∨ ((valueF ((fs.getD k (([], []) : List UInt8 × List UInt8)).2)) = false)) := of_decide_eq_false hs44
                refine AtL.fieldAddrB tf_fo78_0 (.inr ⟨_, _, _, rfl, rfl, rfl, rfl⟩) rfl rfl rfl ?_
                refine AtL.load tf_flat9 (.inr ⟨_, _, _, rfl, rfl, rfl, rfl⟩) rfl rfl (Cell.own 0 0 rfl rfl rfl) ?_
                refine AtL.call tf_body111 (.inr ⟨_, _, _, rfl, rfl, rfl, rfl⟩) rfl rfl (rown_ok (n := (fs.getD k (([], []) : List UInt8 × List UInt8)).1) (by omega) (fs.getD k (([], []) : List UInt8 × List UInt8)).2) ?_
                rintro _ _ ⟨rfl, rfl⟩
                refine AtL.pickF (.inl rfl) rfl rfl rfl ?_
                exact J _ (by exact ⟨(boolIs (by clear J; first | (simp [hs44]; done) | (simp_all; done) | grind)), rfl, rfl, rfl, rfl, trivial⟩)
            · skip
              refine AtL.done ?_
              refine At.cond rfl ?_ ?_
              · intro hc3
                have hc3 : (((wordF ((fs.getD k (([], []) : List UInt8 × List UInt8)).1) 64) = false) ∨ ((valueF ((fs.getD k (([], []) : List UInt8 × List UInt8)).2)) = false)) ∨ ((ownF ((fs.getD k (([], []) : List UInt8 × List UInt8)).1, (fs.getD k (([], []) : List UInt8 × List UInt8)).2)) = true) := of_decide_eq_true hc3
                refine At.seq ?_
                refine At.region ?_
                refine AtL.assign (.inl rfl) rfl rfl ?_
                refine AtL.done ?_
                refine At.pick (H' := H) [] 2 rfl rfl ?_
                exact At.ret Tryz.func67 rfl rfl (⟨congrArg int (chk_bad (r := ⟨st, fs, b, kp⟩) (k := k) (by show k < fs.length; omega) (.inl (by rcases hc3 with (h | h) | h; exact fldR_no3 h; exact fldR_no4 h; exact fldR_no1 h))).symm, rfl⟩)
              · intro hc3
                have hc3 : ¬ ((((wordF ((fs.getD k (([], []) : List UInt8 × List UInt8)).1) 64) = false) ∨ ((valueF ((fs.getD k (([], []) : List UInt8 × List UInt8)).2)) = false)) ∨ ((ownF ((fs.getD k (([], []) : List UInt8 × List UInt8)).1, (fs.getD k (([], []) : List UInt8 × List UInt8)).2)) = true)) := of_decide_eq_false hc3
                simp only [not_or] at hc3
                have hfR : fldR (fs.getD k (([], []) : List UInt8 × List UInt8)) = true := fldR_yes2 hc3.1.1 hc3.1.2 hc3.2
                have hall2 := all_snoc (p := fldR) (by omega) ha hfR
                refine At.skip ?_
                refine At.region ?_
                refine AtL.move (.inl rfl) rfl rfl ?_
                refine AtL.fieldAddrB tf_fo78_0 (.inl rfl) rfl rfl rfl ?_
                refine AtL.load tf_flat9 (.inl rfl) rfl rfl (Cell.own 0 0 rfl rfl rfl) ?_
                refine AtL.lenS (l := (fs.getD k (([], []) : List UInt8 × List UInt8)).1) Tryz.underlying9 (.inl rfl) rfl rfl ?_
                refine AtL.add (z := (s : Int) + (((fs.getD k (([], []) : List UInt8 × List UInt8)).1).length : Int)) (.inl rfl) rfl rfl rfl (w64 (by omega) (by omega)) ?_
                refine AtL.fieldAddrB tf_fo78_1 (.inl rfl) rfl rfl rfl ?_
                refine AtL.load tf_flat9 (.inl rfl) rfl rfl (Cell.own 0 0 rfl rfl rfl) ?_
                refine AtL.lenS (l := (fs.getD k (([], []) : List UInt8 × List UInt8)).2) Tryz.underlying9 (.inl rfl) rfl rfl ?_
                refine AtL.add (z := ((s : Int) + (((fs.getD k (([], []) : List UInt8 × List UInt8)).1).length : Int)) + (((fs.getD k (([], []) : List UInt8 × List UInt8)).2).length : Int)) (.inl rfl) rfl rfl rfl (w64 (by omega) (by omega)) ?_
                refine AtL.assign (.inl rfl) rfl rfl ?_
                refine AtL.done ?_
                refine At.inBlock ?_
                refine At.region ?_
                refine AtL.move (.inl rfl) rfl rfl ?_
                refine AtL.add (z := (k : Int) + 1) (.inl rfl) rfl rfl rfl (w64 (by omega) (by omega)) ?_
                refine AtL.assign (.inl rfl) rfl rfl ?_
                refine AtL.done ?_
                refine At.pick (H' := [(b1, .cells #[.int .i64 st, .slice A fs.length C, .slice A2 b.length C2, .bool kp] 74 (0, 0))] :: H) [1] 2 rfl rfl ?_
                refine ihL1 (k + 1) ((s + (((fs.getD k (([], []) : List UInt8 × List UInt8)).1).length)) + (((fs.getD k (([], []) : List UInt8 × List UInt8)).2).length)) (⟨by omega, hall2, by rw [sumF_snoc fs k (by omega), ← hs] <;> omega, by omega⟩) (by omega) _ ?_
                exact ⟨rfl, (by first | rfl | exact slLen (by simp []) | exact intEq (by omega) | exact intEq (by simp []) | exact slLen (by simp []; omega)), (by first | rfl | exact slLen (by simp []) | exact intEq (by omega) | exact intEq (by simp []) | exact slLen (by simp []; omega)), trivial⟩
        · intro hc2
          have hc2 : ¬ ((k : Int) < (fs.length : Int)) := of_decide_eq_false hc2
          refine At.exit rfl ?_
          refine At.seq ?_
          refine At.seq ?_
          refine At.region ?_
          refine AtL.move (.inl rfl) rfl rfl ?_
          refine AtL.gtr (.inl rfl) rfl rfl rfl ?_
          refine AtL.done ?_
          refine At.cond rfl ?_ ?_
          · intro hc4
            have hc4 : 4096 < (s : Int) := of_decide_eq_true hc4
            refine At.seq ?_
            refine At.region ?_
            refine AtL.assign (.inl rfl) rfl rfl ?_
            refine AtL.done ?_
            refine At.pick (H' := H) [] 1 rfl rfl ?_
            exact At.ret Tryz.func67 rfl rfl (⟨congrArg int (chk_long (r := ⟨st, fs, b, kp⟩) (by show 4096 < sumF fs; rw [List.take_of_length_le (by omega)] at hs; omega)).symm, rfl⟩)
          · intro hc4
            have hc4 : ¬ (4096 < (s : Int)) := of_decide_eq_false hc4
            refine At.skip ?_
            refine At.seq ?_
            refine At.region ?_
            refine AtL.assign (.inl rfl) rfl rfl ?_
            refine AtL.done ?_
            refine At.pick (H' := H) [] 1 rfl rfl ?_
            exact At.ret Tryz.func67 rfl rfl (⟨congrArg int (chk_ok (r := ⟨st, fs, b, kp⟩) hc1 (by show fs.length ≤ k; omega) ha (by show sumF (fs.take k) ≤ 4096; omega)).symm, rfl⟩)

end Go.Proofs.YtlkdmbpbjhjkfaaGreatDoor
