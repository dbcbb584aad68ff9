/- HeadBlanks: the walk. -/
import Derived.Test.YtlfkoimkojbghaaDoorS1
namespace Go.Proofs.YtlfkoimkojbghaaDoor
set_option linter.unusedVariables false
set_option linter.unusedSimpArgs false
set_option maxRecDepth 100000

theorem pick_lt (n : Int) : pick n 20 < 20 ∧ 0 ≤ pick n 20 := by
  rw [pick, if_neg (by omega)]
  omega
theorem blank_two : ∀ j, j < 2 → blankF (([32, 9] : List UInt8).getD j 0) = true := by decide
theorem turnB_yes {c : UInt8} (h : (65 ≤ (c.toNat : Int) ∧ (c.toNat : Int) ≤ 90) ∨ (97 ≤ (c.toNat : Int) ∧ (c.toNat : Int) ≤ 122)) : turnB c = c ^^^ 32 := by
  rw [turnB, if_pos]
  rcases h with ⟨h1, h2⟩ | ⟨h1, h2⟩
  · exact .inl ⟨show (65 : Nat) ≤ c.toNat by omega, show c.toNat ≤ 90 by omega⟩
  · exact .inr ⟨show (97 : Nat) ≤ c.toNat by omega, show c.toNat ≤ 122 by omega⟩
theorem turnB_no {c : UInt8} (h : ¬ ((65 ≤ (c.toNat : Int) ∧ (c.toNat : Int) ≤ 90) ∨ (97 ≤ (c.toNat : Int) ∧ (c.toNat : Int) ≤ 122))) : turnB c = c := by
  rw [turnB, if_neg]
  rintro (⟨h1, h2⟩ | ⟨h1, h2⟩)
  · have h1 : (65 : Nat) ≤ c.toNat := h1
    have h2 : c.toNat ≤ 90 := h2
    omega
  · have h1 : (97 : Nat) ≤ c.toNat := h1
    have h2 : c.toNat ≤ 122 := h2
    omega
theorem xor32 (u : UInt8) (h : turnB u = u ^^^ 32) : IntKind.u8.wrap (((BitVec.ofInt IntKind.u8.bits (u.toNat : Int)) ^^^ (BitVec.ofInt IntKind.u8.bits 32)).toNat : Int) = ((turnB u).toNat : Int) := by
  rw [h]
  have h1 : BitVec.ofInt 8 (u.toNat : Int) = u.toBitVec := by
    apply BitVec.eq_of_toNat_eq
    have := u.toNat_lt
    simp
  have h2 : BitVec.ofInt 8 32 = (32 : UInt8).toBitVec := by decide
  show IntKind.u8.wrap ((BitVec.ofInt 8 _ ^^^ BitVec.ofInt 8 32).toNat : Int) = _
  rw [h1, h2, ← UInt8.toBitVec_xor]
  have := (u ^^^ 32).toNat_lt
  exact w8 (by omega) (by show (((u ^^^ 32).toNat : Nat) : Int) ≤ 255; omega)

set_option maxHeartbeats 400000 in
theorem blanks_ok {w0 : World} {base : Nat} {H : List Seg} (n : Int) :
    SCalls Tryd.prog 45 [.int .i64 n] w0 base (H) (fun v H' => ∃ s : List UInt8, v = str s ∧ s.all blankF = true ∧ s.length ≤ 20 ∧ H' = H) := by
  refine SCalls.of_walk (n := 20) Tryd.func45 rfl rfl rfl fun cs => ?_
  refine At.seq ?_
  refine At.region ?_
  refine AtL.assign (.inl rfl) rfl rfl ?_
  refine AtL.done ?_
  refine At.seq ?_
  refine At.region ?_
  refine AtL.assign (.inl rfl) rfl rfl ?_
  refine AtL.done ?_
  refine At.seq ?_
  refine At.seq ?_
  refine At.region ?_
  refine AtL.assign (.inl rfl) rfl rfl ?_
  refine AtL.done ?_
  refine At.block ?_
  refine At.loop2 (fun (k : Nat) (s : List UInt8) => [(0, .int .i64 n), (3, str s), (4, .int .i64 (k : Int))]) (fun (k : Nat) (s : List UInt8) => H) (fun (k : Nat) (s : List UInt8) => s.all blankF = true ∧ s.length = k ∧ k ≤ 20) (fun (k : Nat) (s : List UInt8) => 20 - k) 0 [] (⟨rfl, rfl, by omega⟩) ⟨rfl, rfl, rfl, trivial⟩ rfl ?_
  rintro k s ⟨hs, hl, hk⟩ ihL1
  refine At.seq ?_
  refine At.seq ?_
  refine At.region ?_
  refine AtL.move (.inl rfl) rfl rfl ?_
  refine AtL.move (.inl rfl) rfl rfl ?_
  refine AtL.call tf_body88 (.inl rfl) rfl rfl (pick_ok n 20 (by omega)) ?_
  rintro _ _ ⟨rfl, hHq⟩
  obtain rfl := hHq.symm
  refine AtL.lss (.inl rfl) rfl rfl rfl ?_
  refine AtL.done ?_
  refine At.cond rfl ?_ ?_
  · intro hc1
    have hc1 : (k : Int) < (pick n 20) := of_decide_eq_true hc1
    have hp := pick_lt n
    refine At.skip ?_
    refine At.seq ?_
    refine At.block ?_
    refine At.region ?_
    refine AtL.move (.inl rfl) rfl rfl ?_
    refine AtL.move (.inl rfl) rfl rfl ?_
    refine AtL.rem (z := (k : Int) % 2) (.inl rfl) rfl rfl rfl (by omega) (rem_eq (by omega)) ?_
    refine AtL.move (.inl rfl) rfl rfl ?_
    refine AtL.rem (z := (k : Int) % 2) (.inl rfl) rfl rfl rfl (by omega) (rem_eq (by omega)) ?_
    refine AtL.add (z := ((k : Int) % 2) + 1) (.inl rfl) rfl rfl rfl (w64 (by omega) (by omega)) ?_
    refine AtL.sliceS (l := [32, 9]) (k % 2) ((k % 2) + 1) (evBound_some rfl rfl) (evBound_some rfl rfl) (by omega) (by simp; omega) Tryd.underlying9 (.inl rfl) rfl rfl ?_
    refine AtL.cat (.inl rfl) rfl rfl rfl (by rw [sub_one (b := [32, 9]) (k := k % 2) (by simp; omega)]; simp; omega) ?_
    refine AtL.assign (.inl rfl) rfl rfl ?_
    refine AtL.done ?_
    refine At.inBlock ?_
    refine At.region ?_
    refine AtL.move (.inl rfl) rfl rfl ?_
    refine AtL.add (z := (k : Int) + 1) (.inl rfl) rfl rfl rfl (w64 (by omega) (by omega)) ?_
    refine AtL.assign (.inl rfl) rfl rfl ?_
    refine AtL.done ?_
    refine ihL1 (k + 1) (s ++ (subl [32, 9] (k % 2) ((k % 2) + 1))) (⟨by rw [sub_one (b := [32, 9]) (k := k % 2) (by simp; omega), List.all_append, hs]; simp only [List.all_cons, List.all_nil, Bool.and_true, Bool.true_and]; exact blank_two _ (by omega), by rw [sub_one (b := [32, 9]) (k := k % 2) (by simp; omega)]; simp [hl], by omega⟩) (by omega) _ ?_
    exact ⟨rfl, (by first | rfl | exact slLen (by simp []) | exact intEq (by omega) | exact intEq (by simp []) | exact slLen (by simp []; omega)), (by first | rfl | exact slLen (by simp []) | exact intEq (by omega) | exact intEq (by simp []) | exact slLen (by simp []; omega)), trivial⟩
  · intro hc1
    have hc1 : ¬ ((k : Int) < (pick n 20)) := of_decide_eq_false hc1
    refine At.exit rfl ?_
    refine At.seq ?_
    refine At.region ?_
    refine AtL.move (.inl rfl) rfl rfl ?_
    refine AtL.assign (.inl rfl) rfl rfl ?_
    refine AtL.done ?_
    exact At.ret Tryd.func45 rfl rfl (⟨_, rfl, hs, by omega, rfl⟩)

set_option maxHeartbeats 400000 in
theorem turned_ok {w0 : World} {base : Nat} {H : List Seg} {l : List UInt8} (hl : l.length ≤ 140737488355000) :
    SCalls Tryd.prog 47 [str l] w0 base (H) (fun v H' => v = str (turnF l) ∧ H' = H) := by
  refine SCalls.of_walk (n := 49) Tryd.func47 rfl rfl rfl fun cs => ?_
  refine At.seq ?_
  refine At.region ?_
  refine AtL.assign (.inl rfl) rfl rfl ?_
  refine AtL.done ?_
  refine At.seq ?_
  refine At.region ?_
  refine AtL.move (.inl rfl) rfl rfl ?_
  refine AtL.bytesOf (l := l) Tryd.underlying9 Tryd.underlying25 Tryd.underlying5 (by first | omega | (simp only [List.length_append, List.length_cons, List.length_nil]; omega) | (simp; done) | (simp; omega)) (.inl rfl) rfl rfl ?_
  intro A1 C2 s3 n5 o4
  refine AtL.assign (.inl rfl) rfl rfl ?_
  refine AtL.done ?_
  refine At.seq ?_
  refine At.seq ?_
  refine At.region ?_
  refine AtL.assign (.inl rfl) rfl rfl ?_
  refine AtL.done ?_
  refine At.block ?_
  refine At.loop2 (fun (k : Nat) (s2 : Seg) => [(3, .slice A1 (mapTo turnB l k).length C2), (4, .int .i64 (k : Int))]) (fun (k : Nat) (s2 : Seg) => s2 :: H) (fun (k : Nat) (s2 : Seg) => k ≤ l.length ∧ Own tyB 5 A1 (C2) (mapTo turnB l k) s2) (fun (k : Nat) (s2 : Seg) => l.length - k) 0 s3 (⟨Nat.zero_le _, by rw [mapTo_zero]; exact o4⟩) ⟨rfl, rfl, trivial⟩ rfl ?_
  rintro k s2 ⟨hk, ho⟩ ihL1
  have hlen := mapTo_len turnB l k
  have hcap := Own.cap_le ho
  have hle := Own.le_cap ho
  refine At.seq ?_
  refine At.seq ?_
  refine At.region ?_
  refine AtL.move (.inl rfl) rfl rfl ?_
  refine AtL.move (.inl rfl) rfl rfl ?_
  refine AtL.lenL Tryd.underlying25 (.inl rfl) rfl rfl ?_
  refine AtL.lss (.inl rfl) rfl rfl rfl ?_
  refine AtL.done ?_
  refine At.cond rfl ?_ ?_
  · intro hc1
    have hc1 : (k : Int) < ((mapTo turnB l k).length : Int) := of_decide_eq_true hc1
    refine At.skip ?_
    refine At.seq ?_
    refine At.block ?_
    refine At.seq ?_
    refine At.region ?_
    refine AtL.move (.inl rfl) rfl rfl ?_
    refine AtL.move (.inl rfl) rfl rfl ?_
    refine AtL.indexL k (ho.rd (i := 0) rfl) Tryd.underlying25 tf_sz5 (.inl rfl) rfl rfl rfl rfl (by omega) ?_
    refine AtL.load (v := .int .u8 (((mapTo turnB l k).getD k 0).toNat : Int)) tf_flat5 (.inl rfl) rfl rfl (Rd.cell0 (ho.rd (i := 0) rfl) (getD_some 0 (by omega)) rfl) ?_
    refine AtL.geq (.inl rfl) rfl rfl rfl ?_
    refine AtL.move (.inl rfl) rfl rfl ?_
    refine AtL.join 6 (E' := [(24, .bool (decide ((65 ≤ (((mapTo turnB l k).getD k 0).toNat : Int)) ∧ ((((mapTo turnB l k).getD k 0).toNat : Int) ≤ 90)))), (3, .slice A1 (mapTo turnB l k).length C2), (4, .int .i64 (k : Int))]) (H' := s2 :: H) (fun J => ?_) ?_
    · refine AtL.split (t := 18) rfl ?_ ?_
      · intro hs18
        have hs18 : 65 ≤ (((mapTo turnB l k).getD k 0).toNat : Int) := of_decide_eq_true hs18
        refine AtL.move (.inr ⟨_, _, _, rfl, rfl, rfl, rfl⟩) rfl rfl ?_
        refine AtL.move (.inr ⟨_, _, _, rfl, rfl, rfl, rfl⟩) rfl rfl ?_
        refine AtL.indexL k (ho.rd (i := 0) rfl) Tryd.underlying25 tf_sz5 (.inr ⟨_, _, _, rfl, rfl, rfl, rfl⟩) rfl rfl rfl rfl (by omega) ?_
        refine AtL.load (v := .int .u8 (((mapTo turnB l k).getD k 0).toNat : Int)) tf_flat5 (.inr ⟨_, _, _, rfl, rfl, rfl, rfl⟩) rfl rfl (Rd.cell0 (ho.rd (i := 0) rfl) (getD_some 0 (by omega)) rfl) ?_
        refine AtL.leq (.inr ⟨_, _, _, rfl, rfl, rfl, rfl⟩) rfl rfl rfl ?_
        refine AtL.pickT (.inl rfl) rfl rfl rfl ?_
        exact J _ (by exact ⟨(boolIs (by clear J; first | (simp [hs18]; done) | (simp_all; done) | grind)), rfl, rfl, trivial⟩)
      · intro hs18
        have hs18 : ¬ (65 ≤ (((mapTo turnB l k).getD k 0).toNat : Int)) := of_decide_eq_false hs18
        refine AtL.skipped rfl rfl rfl rfl rfl rfl ?_
        refine AtL.skipped rfl rfl rfl rfl rfl rfl ?_
        refine AtL.skipped rfl rfl rfl rfl rfl rfl ?_
        refine AtL.skipped rfl rfl rfl rfl rfl rfl ?_
        refine AtL.skipped rfl rfl rfl rfl rfl rfl ?_
        refine AtL.pickF (.inl rfl) rfl rfl rfl ?_
        exact J _ (by exact ⟨(boolIs (by clear J; first | (simp [hs18]; done) | (simp_all; done) | grind)), rfl, rfl, trivial⟩)
    · skip
      refine AtL.move (.inl rfl) rfl rfl ?_
      refine AtL.join 13 (E' := [(38, .bool (decide (((65 ≤ (((mapTo turnB l k).getD k 0).toNat : Int)) ∧ ((((mapTo turnB l k).getD k 0).toNat : Int) ≤ 90)) ∨ ((97 ≤ (((mapTo turnB l k).getD k 0).toNat : Int)) ∧ ((((mapTo turnB l k).getD k 0).toNat : Int) ≤ 122))))), (3, .slice A1 (mapTo turnB l k).length C2), (4, .int .i64 (k : Int))]) (H' := s2 :: H) (fun J => ?_) ?_
      · refine AtL.split (t := 25) rfl ?_ ?_
        · intro hs25
          have hs25 : (65 ≤ (((mapTo turnB l k).getD k 0).toNat : Int)) ∧ ((((mapTo turnB l k).getD k 0).toNat : Int) ≤ 90) := of_decide_eq_true hs25
          refine AtL.skipped rfl rfl rfl rfl rfl rfl ?_
          refine AtL.skipped rfl rfl rfl rfl rfl rfl ?_
          refine AtL.skipped rfl rfl rfl rfl rfl rfl ?_
          refine AtL.skipped rfl rfl rfl rfl rfl rfl ?_
          refine AtL.skipped rfl rfl rfl rfl rfl rfl ?_
          refine AtL.skipped rfl rfl rfl rfl rfl rfl ?_
          refine AtL.skippedU rfl rfl rfl rfl rfl ?_
          refine AtL.skippedU rfl rfl rfl rfl rfl ?_
          refine AtL.skippedU rfl rfl rfl rfl rfl ?_
          refine AtL.skippedU rfl rfl rfl rfl rfl ?_
          refine AtL.skippedU rfl rfl rfl rfl rfl ?_
          refine AtL.skipped rfl rfl rfl rfl rfl rfl ?_
          refine AtL.pickT (.inl rfl) rfl rfl rfl ?_
          exact J _ (by exact ⟨(boolIs (by clear J; first | (simp [hs25]; done) | (simp_all; done) | grind)), rfl, rfl, trivial⟩)
        · intro hs25
          have hs25 : ¬ ((65 ≤ (((mapTo turnB l k).getD k 0).toNat : Int)) ∧ ((((mapTo turnB l k).getD k 0).toNat : Int) ≤ 90)) := of_decide_eq_false hs25
          refine AtL.move (.inr ⟨_, _, _, rfl, rfl, rfl, rfl⟩) rfl rfl ?_
          refine AtL.move (.inr ⟨_, _, _, rfl, rfl, rfl, rfl⟩) rfl rfl ?_
          refine AtL.indexL k (ho.rd (i := 0) rfl) Tryd.underlying25 tf_sz5 (.inr ⟨_, _, _, rfl, rfl, rfl, rfl⟩) rfl rfl rfl rfl (by omega) ?_
          refine AtL.load (v := .int .u8 (((mapTo turnB l k).getD k 0).toNat : Int)) tf_flat5 (.inr ⟨_, _, _, rfl, rfl, rfl, rfl⟩) rfl rfl (Rd.cell0 (ho.rd (i := 0) rfl) (getD_some 0 (by omega)) rfl) ?_
          refine AtL.geq (.inr ⟨_, _, _, rfl, rfl, rfl, rfl⟩) rfl rfl rfl ?_
          refine AtL.move (.inr ⟨_, _, _, rfl, rfl, rfl, rfl⟩) rfl rfl ?_
          refine AtL.join 6 (E' := [(37, .bool (decide ((97 ≤ (((mapTo turnB l k).getD k 0).toNat : Int)) ∧ ((((mapTo turnB l k).getD k 0).toNat : Int) ≤ 122)))), (3, .slice A1 (mapTo turnB l k).length C2), (4, .int .i64 (k : Int)), (25, .bool false)]) (H' := s2 :: H) (fun J => ?_) ?_
          · refine AtL.split (t := 31) rfl ?_ ?_
            · intro hs31
              have hs31 : 97 ≤ (((mapTo turnB l k).getD k 0).toNat : Int) := of_decide_eq_true hs31
              refine AtL.move (.inr ⟨_, _, _, rfl, rfl, rfl, rfl⟩) rfl rfl ?_
              refine AtL.move (.inr ⟨_, _, _, rfl, rfl, rfl, rfl⟩) rfl rfl ?_
              refine AtL.indexL k (ho.rd (i := 0) rfl) Tryd.underlying25 tf_sz5 (.inr ⟨_, _, _, rfl, rfl, rfl, rfl⟩) rfl rfl rfl rfl (by omega) ?_
              refine AtL.load (v := .int .u8 (((mapTo turnB l k).getD k 0).toNat : Int)) tf_flat5 (.inr ⟨_, _, _, rfl, rfl, rfl, rfl⟩) rfl rfl (Rd.cell0 (ho.rd (i := 0) rfl) (getD_some 0 (by omega)) rfl) ?_
              refine AtL.leq (.inr ⟨_, _, _, rfl, rfl, rfl, rfl⟩) rfl rfl rfl ?_
              refine AtL.pickT (.inr ⟨_, _, _, rfl, rfl, rfl, rfl⟩) rfl rfl rfl ?_
              exact J _ (by exact ⟨(boolIs (by clear J; first | (simp [hs31]; done) | (simp_all; done) | grind)), rfl, rfl, rfl, trivial⟩)
            · intro hs31
              have hs31 : ¬ (97 ≤ (((mapTo turnB l k).getD k 0).toNat : Int)) := of_decide_eq_false hs31
              refine AtL.skipped rfl rfl rfl rfl rfl rfl ?_
              refine AtL.skipped rfl rfl rfl rfl rfl rfl ?_
              refine AtL.skipped rfl rfl rfl rfl rfl rfl ?_
              refine AtL.skipped rfl rfl rfl rfl rfl rfl ?_
              refine AtL.skipped rfl rfl rfl rfl rfl rfl ?_
              refine AtL.pickF (.inr ⟨_, _, _, rfl, rfl, rfl, rfl⟩) rfl rfl rfl ?_
              exact J _ (by exact ⟨(boolIs (by clear J; first | (simp [hs31]; done) | (simp_all; done) | grind)), rfl, rfl, rfl, trivial⟩)
          · skip
            refine AtL.pickF (.inl rfl) rfl rfl rfl ?_
            exact J _ (by exact ⟨(boolIs (by clear J; first | (simp [hs25]; done) | (simp_all; done) | grind)), rfl, rfl, trivial⟩)
      · skip
        refine AtL.done ?_
        refine At.cond rfl ?_ ?_
        · intro hc2
          have hc2 : ((65 ≤ (((mapTo turnB l k).getD k 0).toNat : Int)) ∧ ((((mapTo turnB l k).getD k 0).toNat : Int) ≤ 90)) ∨ ((97 ≤ (((mapTo turnB l k).getD k 0).toNat : Int)) ∧ ((((mapTo turnB l k).getD k 0).toNat : Int) ≤ 122)) := of_decide_eq_true hc2
          refine At.region ?_
          refine AtL.move (.inl rfl) rfl rfl ?_
          refine AtL.move (.inl rfl) rfl rfl ?_
          refine AtL.move (.inl rfl) rfl rfl ?_
          refine AtL.move (.inl rfl) rfl rfl ?_
          refine AtL.indexL k (ho.rd (i := 0) rfl) Tryd.underlying25 tf_sz5 (.inl rfl) rfl rfl rfl rfl (by omega) ?_
          refine AtL.load (v := .int .u8 (((mapTo turnB l k).getD k 0).toNat : Int)) tf_flat5 (.inl rfl) rfl rfl (Rd.cell0 (ho.rd (i := 0) rfl) (getD_some 0 (by omega)) rfl) ?_
          refine AtL.bxor (z := (turnB ((mapTo turnB l k).getD k 0)).toNat) (.inl rfl) rfl rfl rfl (xor32 _ (turnB_yes hc2)) ?_
          refine AtL.indexL k (ho.rd (i := 0) rfl) Tryd.underlying25 tf_sz5 (.inl rfl) rfl rfl rfl rfl (by omega) ?_
          refine AtL.setIdx (u := (turnB ((mapTo turnB l k).getD k 0))) 0 k tf_sz5 rfl ho (by omega) (.inl rfl) rfl rfl ?_
          intro s6 o7
          refine AtL.relen (m := ((mapTo turnB l k).set k (turnB ((mapTo turnB l k).getD k 0))).length) 3 rfl (List.length_set) ?_
          refine AtL.done ?_
          refine At.inBlock ?_
          refine At.region ?_
          refine AtL.move (.inl rfl) rfl rfl ?_
          refine AtL.add (z := (k : Int) + 1) (.inl rfl) rfl rfl rfl (w64 (by omega) (by omega)) ?_
          refine AtL.assign (.inl rfl) rfl rfl ?_
          refine AtL.done ?_
          refine ihL1 (k + 1) s6 (⟨by omega, by rw [← mapTo_set _ _ _ (by omega), ← mapTo_get turnB l k (by omega)]; exact o7⟩) (by omega) _ ?_
          exact ⟨(by first | rfl | exact slLen (by simp [mapTo_len]) | exact intEq (by omega) | exact intEq (by simp [mapTo_len]) | exact slLen (by simp [mapTo_len]; omega)), (by first | rfl | exact slLen (by simp [mapTo_len]) | exact intEq (by omega) | exact intEq (by simp [mapTo_len]) | exact slLen (by simp [mapTo_len]; omega)), trivial⟩
        · intro hc2
          have hc2 : ¬ (((65 ≤ (((mapTo turnB l k).getD k 0).toNat : Int)) ∧ ((((mapTo turnB l k).getD k 0).toNat : Int) ≤ 90)) ∨ ((97 ≤ (((mapTo turnB l k).getD k 0).toNat : Int)) ∧ ((((mapTo turnB l k).getD k 0).toNat : Int) ≤ 122))) := of_decide_eq_false hc2
          refine At.skip ?_
          refine At.inBlock ?_
          refine At.region ?_
          refine AtL.move (.inl rfl) rfl rfl ?_
          refine AtL.add (z := (k : Int) + 1) (.inl rfl) rfl rfl rfl (w64 (by omega) (by omega)) ?_
          refine AtL.assign (.inl rfl) rfl rfl ?_
          refine AtL.done ?_
          refine ihL1 (k + 1) s2 (⟨by omega, by rw [mapTo_same _ _ _ (by omega) (by rw [← mapTo_get turnB l k (by omega)]; exact turnB_no hc2)]; exact ho⟩) (by omega) _ ?_
          exact ⟨(by first | rfl | exact slLen (by simp [mapTo_len]) | exact intEq (by omega) | exact intEq (by simp [mapTo_len]) | exact slLen (by simp [mapTo_len]; omega)), (by first | rfl | exact slLen (by simp [mapTo_len]) | exact intEq (by omega) | exact intEq (by simp [mapTo_len]) | exact slLen (by simp [mapTo_len]; omega)), trivial⟩
  · intro hc1
    have hc1 : ¬ ((k : Int) < ((mapTo turnB l k).length : Int)) := of_decide_eq_false hc1
    obtain rfl : k = l.length := by omega
    refine At.exit rfl ?_
    refine At.seq ?_
    refine At.region ?_
    refine AtL.move (.inl rfl) rfl rfl ?_
    refine AtL.strOf (ho.rd (i := 0) rfl) Tryd.underlying25 Tryd.underlying5 Tryd.underlying9 (.inl rfl) rfl rfl ?_
    refine AtL.assign (.inl rfl) rfl rfl ?_
    refine AtL.done ?_
    refine At.pick (H' := H) [] 1 rfl rfl ?_
    exact At.ret Tryd.func47 rfl rfl (⟨congrArg str (by rw [mapTo_all, turnF]), rfl⟩)

theorem check1_ok {w0 : World} {base : Nat} {H : List Seg} {nm v : List UInt8} {Ad : Option Addr} {C : Nat} (hnm : nm.length ≤ 140737488355000) (hv : v.length ≤ 140737488351232) (h : Rd tyField w0 base H Ad C [(nm, v)]) :
    SCalls Tryd.prog 44 [.agg #[str GET, str SLA, int 0, .slice Ad [(nm, v)].length C]] w0 base H (fun u H' => u = int (writeE (ofF 0 nm v)) ∧ H' = H) := by
  by_cases h64 : nm.length ≤ 64
  · exact check_ok h (by simp) (by simp [szF, GET, SLA]; omega)
  · have hno : okF (ofF 0 nm v) = false := by
      cases hq : okF (ofF 0 nm v) with
      | false => rfl
      | true => simp only [okF, ofF, Bool.and_eq_true, decide_eq_true_eq, List.all_cons, List.all_nil, fieldOk, wordF] at hq; omega
    have h2 : writeE (ofF 0 nm v) = 2 := by rw [writeE, if_neg (by rw [writeOk, hno]; simp)]
    rw [h2]
    exact check_no (m := GET) (t := SLA) (minor := 0) h (by simp) (by intro f hf; simp at hf; subst hf; exact ⟨hnm, by dsimp only; omega⟩) (by decide) (by decide) hno
theorem field1_ok {w0 : World} {base : Nat} {H : List Seg} {nm v : List UInt8} {Ad : Option Addr} {C : Nat} (hnm : nm.length ≤ 140737488355000) (hv : v.length ≤ 140737488351232) (h : Rd tyField w0 base H Ad C [(nm, v)]) :
    SCalls Tryd.prog 46 [.agg #[str GET, str SLA, int 0, .slice Ad [(nm, v)].length C], str (turnF nm)] w0 base H (fun u H' => u = .tuple #[str v, int 1] ∧ H' = H) := by
  have h := field_ok (m := GET) (t := SLA) (minor := 0) (fs := [(nm, v)]) h (nm := turnF nm) (by simp [turnF]; omega) (by simp) (by simp; omega)
  rw [blank_field] at h
  exact h

set_option maxHeartbeats 400000 in
theorem headblanks_ok {w0 : World} {base : Nat} {H : List Seg} {nm v : List UInt8} (hnm : nm.length ≤ 140737488355000) (hv : v.length ≤ 140737488351232) (a b : Int) (T : Tabs w0 base) :
    SCalls Tryd.prog 10 [str nm, str v, .int .i64 a, .int .i64 b] w0 base (H) (fun u H' => u = .bool true ∧ H' = H) := by
  refine SCalls.of_walk (n := 83) Tryd.func10 rfl rfl rfl fun cs => ?_
  refine At.seq ?_
  refine At.region ?_
  refine AtL.assign (.inl rfl) rfl rfl ?_
  refine AtL.done ?_
  refine At.seq ?_
  refine At.region ?_
  refine AtL.call tf_body40 (.inl rfl) rfl rfl (awake_ok T) ?_
  rintro _ _ ⟨rfl, hHq⟩
  obtain rfl := hHq.symm
  refine AtL.assign (.inl rfl) rfl rfl ?_
  refine AtL.done ?_
  refine At.seq ?_
  refine At.region ?_
  refine AtL.move (.inl rfl) rfl rfl ?_
  refine AtL.move (.inl rfl) rfl rfl ?_
  refine AtL.call tf_body43 (.inl rfl) rfl rfl (of_ok 0 nm v) ?_
  rintro _ _ ⟨⟨A1, C2, l3, s4, o5⟩, hx6, rfl, rfl⟩
  obtain rfl : [(nm, v)] = l3 := hx6.symm
  refine AtL.alloc tf_zero24 (cs := #[str [], str [], .int .i64 0, .slice none 0 0]) rfl (.inl rfl) rfl ?_
  intro b7
  refine AtL.store (H' := [(b7, .cells #[str GET, str SLA, .int .i64 0, .slice A1 [(nm, v)].length C2] 24 (0, 0))] :: s4 :: H) 0 0 tf_sz24 (.inl rfl) rfl rfl rfl rfl rfl rfl rfl rfl rfl ?_
  refine AtL.done ?_
  refine At.seq ?_
  refine At.seq ?_
  refine At.region ?_
  refine AtL.loadN (cs := [str GET, str SLA, .int .i64 0, .slice A1 [(nm, v)].length C2]) tf_agg24 (.inl rfl) rfl rfl rfl (cellsOwn 0 0 0 rfl rfl rfl) ?_
  refine AtL.call tf_body44 (.inl rfl) rfl rfl (check1_ok hnm hv (o5.rd (i := 1) rfl)) ?_
  rintro _ _ ⟨rfl, rfl⟩
  refine AtL.nei (.inl rfl) rfl rfl rfl ?_
  refine AtL.move (.inl rfl) rfl rfl ?_
  refine AtL.join 4 (E' := [(27, .bool (decide ((¬ ((writeE (ofF 0 nm v) : Int) = 0)) ∨ (2000 < (v.length : Int))))), (0, str nm), (1, str v), (2, .int .i64 a), (3, .int .i64 b), (9, .bool true), (10, .pointer (some ⟨b7, 0, none⟩))]) (H' := [(b7, .cells #[str GET, str SLA, .int .i64 0, .slice A1 [(nm, v)].length C2] 24 (0, 0))] :: s4 :: H) (fun J => ?_) ?_
  · refine AtL.split (t := 23) rfl ?_ ?_
    · intro hs23
      have hs23 : ¬ ((writeE (ofF 0 nm v) : Int) = 0) := of_decide_eq_false (bnot_true hs23)
      refine AtL.skipped rfl rfl rfl rfl rfl rfl ?_
      refine AtL.skipped rfl rfl rfl rfl rfl rfl ?_
      refine AtL.skipped rfl rfl rfl rfl rfl rfl ?_
      refine AtL.pickT (.inl rfl) rfl rfl rfl ?_
      exact J _ (by exact ⟨(boolIs (by clear J; first | (simp [hs23]; done) | (simp_all; done) | grind)), rfl, rfl, rfl, rfl, rfl, rfl, trivial⟩)
    · intro hs23
      have hs23 : (writeE (ofF 0 nm v) : Int) = 0 := of_decide_eq_true (bnot_false hs23)
      refine AtL.move (.inr ⟨_, _, _, rfl, rfl, rfl, rfl⟩) rfl rfl ?_
      refine AtL.lenS (l := v) Tryd.underlying9 (.inr ⟨_, _, _, rfl, rfl, rfl, rfl⟩) rfl rfl ?_
      refine AtL.gtr (.inr ⟨_, _, _, rfl, rfl, rfl, rfl⟩) rfl rfl rfl ?_
      refine AtL.pickF (.inl rfl) rfl rfl rfl ?_
      exact J _ (by exact ⟨(boolIs (by clear J; first | (simp [hs23]; done) | (simp_all; done) | grind)), rfl, rfl, rfl, rfl, rfl, rfl, trivial⟩)
  · skip
    refine AtL.done ?_
    refine At.cond rfl ?_ ?_
    · intro hc1
      have hc1 : (¬ ((writeE (ofF 0 nm v) : Int) = 0)) ∨ (2000 < (v.length : Int)) := of_decide_eq_true hc1
      refine At.seq ?_
      refine At.region ?_
      refine AtL.move (.inl rfl) rfl rfl ?_
      refine AtL.assign (.inl rfl) rfl rfl ?_
      refine AtL.done ?_
      refine At.pick (H' := H) [] 2 rfl rfl ?_
      exact At.ret Tryd.func10 rfl rfl (⟨rfl, rfl⟩)
    · intro hc1
      have hc1 : ¬ ((¬ ((writeE (ofF 0 nm v) : Int) = 0)) ∨ (2000 < (v.length : Int))) := of_decide_eq_false hc1
      simp only [not_or] at hc1
      have hok : writeOk (ofF 0 nm v) = true := by have h1 : writeE (ofF 0 nm v) = 0 := (by simpa using hc1.1); unfold writeE at h1; split at h1; assumption; cases h1
      have hv2 : v.length ≤ 2000 := by omega
      have hn64 : nm.length ≤ 64 := by simp only [writeOk, okF, ofF, Bool.and_eq_true, decide_eq_true_eq, List.all_cons, List.all_nil, fieldOk, wordF] at hok; omega
      refine At.skip ?_
      refine At.seq ?_
      refine At.region ?_
      refine AtL.move (.inl rfl) rfl rfl ?_
      refine AtL.cat (.inl rfl) rfl rfl rfl (by first | omega | (simp only [List.length_append, List.length_cons, List.length_nil]; omega) | (simp; omega)) ?_
      refine AtL.move (.inl rfl) rfl rfl ?_
      refine AtL.call tf_body45 (.inl rfl) rfl rfl (blanks_ok a) ?_
      rintro _ _ ⟨s8, rfl, hb9, hl10, rfl⟩
      have hX1 := hb9
      have hY1 := hl10
      refine AtL.cat (.inl rfl) rfl rfl rfl (by first | omega | (simp only [List.length_append, List.length_cons, List.length_nil]; omega) | (simp; omega)) ?_
      refine AtL.move (.inl rfl) rfl rfl ?_
      refine AtL.cat (.inl rfl) rfl rfl rfl (by first | omega | (simp only [List.length_append, List.length_cons, List.length_nil]; omega) | (simp; omega)) ?_
      refine AtL.move (.inl rfl) rfl rfl ?_
      refine AtL.call tf_body45 (.inl rfl) rfl rfl (blanks_ok b) ?_
      rintro _ _ ⟨s11, rfl, hb12, hl13, rfl⟩
      have hX2 := hb12
      have hY2 := hl13
      refine AtL.cat (.inl rfl) rfl rfl rfl (by first | omega | (simp only [List.length_append, List.length_cons, List.length_nil]; omega) | (simp; omega)) ?_
      refine AtL.assign (.inl rfl) rfl rfl ?_
      refine AtL.done ?_
      refine At.seq ?_
      refine At.region ?_
      refine AtL.move (.inl rfl) rfl rfl ?_
      refine AtL.cat (.inl rfl) rfl rfl rfl (by first | omega | (simp only [List.length_append, List.length_cons, List.length_nil]; omega) | (simp; omega)) ?_
      refine AtL.cat (.inl rfl) rfl rfl rfl (by first | omega | (simp only [List.length_append, List.length_cons, List.length_nil]; omega) | (simp; omega)) ?_
      refine AtL.bytesOf (l := ([71, 69, 84, 32, 47, 97, 32, 72, 84, 84, 80, 47, 49, 46, 48, 13, 10] ++ ((((nm ++ [58]) ++ s8) ++ v) ++ s11)) ++ [13, 10, 13, 10]) Tryd.underlying9 Tryd.underlying25 Tryd.underlying5 (by first | omega | (simp only [List.length_append, List.length_cons, List.length_nil]; omega) | (simp; done) | (simp; omega)) (.inl rfl) rfl rfl ?_
      intro A14 C15 s16 n18 o17
      refine AtL.call tf_body41 (.inl rfl) rfl rfl (parse_known (b := ([71, 69, 84, 32, 47, 97, 32, 72, 84, 84, 80, 47, 49, 46, 48, 13, 10] ++ ((((nm ++ [58]) ++ s8) ++ v) ++ s11)) ++ [13, 10, 13, 10]) (show parseF (([71, 69, 84, 32, 47, 97, 32, 72, 84, 84, 80, 47, 49, 46, 48, 13, 10] ++ ((((nm ++ [58]) ++ s8) ++ v) ++ s11)) ++ [13, 10, 13, 10]) = (ofF 0 nm v, 200) by have := blank_parse nm v s8 s11 hok hv2 hX1 hX2 hY1 hY2; rw [← this]; congr 1; simp [L10]) (o17.rd (i := 0) rfl) T) ?_
      rintro _ _ ⟨⟨A19, C20, l21, s22, o23⟩, hx24, rfl, rfl⟩
      obtain rfl : [(nm, v)] = l21 := hx24.symm
      refine AtL.move (.inl rfl) rfl rfl ?_
      refine AtL.extract (.inl rfl) rfl rfl rfl ?_
      refine AtL.extract (.inl rfl) rfl rfl rfl ?_
      refine AtL.alloc tf_zero24 (cs := #[str [], str [], .int .i64 0, .slice none 0 0]) rfl (.inl rfl) rfl ?_
      intro b25
      refine AtL.store (H' := [(b25, .cells #[str GET, str SLA, .int .i64 0, .slice A19 [(nm, v)].length C20] 24 (0, 0))] :: s22 :: s16 :: [(b7, .cells #[str GET, str SLA, .int .i64 0, .slice A1 [(nm, v)].length C2] 24 (0, 0))] :: s4 :: H) 0 0 tf_sz24 (.inl rfl) rfl rfl rfl rfl rfl rfl rfl rfl rfl ?_
      refine AtL.assign (.inl rfl) rfl rfl ?_
      refine AtL.done ?_
      refine At.seq ?_
      refine At.draw (es := []) (pv := [(0, .agg #[str GET, str SLA, .int .i64 0, .slice A19 [(nm, v)].length C20]), (1, str nm), (2, str (turnF nm)), (3, .tuple #[str v, .int .i64 1]), (4, .tuple #[str v, .int .i64 1]), (5, str v), (6, .int .i64 1), (7, str v), (8, .int .i64 1)]) tf_mixed (by kernel_rfl) (by kernel_rfl) (by kernel_rfl) ?_
      refine ⟨⟨.inr ⟨_, rfl, rfl, .inl ⟨rfl, Do.loadN (cs := [str GET, str SLA, .int .i64 0, .slice A19 [(nm, v)].length C20]) tf_agg24 rfl rfl (cellsOwn 0 0 0 rfl rfl rfl)⟩⟩, .inr ⟨_, rfl, rfl, .inl ⟨rfl, Do.move rfl⟩⟩, .inr ⟨_, rfl, rfl, .inl ⟨rfl, Do.call tf_body47 rfl (turned_ok (l := nm) (by omega))⟩⟩, .inr ⟨_, rfl, rfl, .inl ⟨rfl, Do.call tf_body46 rfl (field1_ok hnm hv (o23.rd (i := 1) rfl))⟩⟩, .inr ⟨_, rfl, rfl, .inl ⟨rfl, Do.move rfl⟩⟩, .inr ⟨_, rfl, rfl, .inl ⟨rfl, Do.extract rfl rfl⟩⟩, .inr ⟨_, rfl, rfl, .inl ⟨rfl, Do.extract rfl rfl⟩⟩, .inr ⟨_, rfl, rfl, .inl ⟨rfl, Do.assign rfl⟩⟩, .inr ⟨_, rfl, rfl, .inl ⟨rfl, Do.assign rfl⟩⟩, trivial⟩, by kernel_rfl, ?_⟩
      refine At.mono (E' := [(0, str nm), (1, str v), (9, .bool true), (10, .pointer (some ⟨b7, 0, none⟩)), (12, .pointer (some ⟨b25, 0, none⟩)), (13, .int .i64 200), (14, str v), (15, .int .i64 1)]) ⟨rfl, rfl, rfl, rfl, rfl, rfl, rfl, rfl, trivial⟩ ?_
      refine At.seq ?_
      refine At.region ?_
      refine AtL.move (.inl rfl) rfl rfl ?_
      refine AtL.move (.inl rfl) rfl rfl ?_
      refine AtL.move (.inr ⟨_, _, _, rfl, rfl, rfl, rfl⟩) rfl rfl ?_
      refine AtL.eqi (.inr ⟨_, _, _, rfl, rfl, rfl, rfl⟩) rfl rfl rfl ?_
      refine AtL.pickT (.inl rfl) rfl rfl rfl ?_
      refine AtL.move (.inl rfl) rfl rfl ?_
      refine AtL.loadN (cs := [str GET, str SLA, .int .i64 0, .slice A19 [(nm, v)].length C20]) tf_agg24 (.inr ⟨_, _, _, rfl, rfl, rfl, rfl⟩) rfl rfl rfl (cellsOwn 0 0 0 rfl rfl rfl) ?_
      refine AtL.loadN (cs := [str GET, str SLA, .int .i64 0, .slice A1 [(nm, v)].length C2]) tf_agg24 (.inr ⟨_, _, _, rfl, rfl, rfl, rfl⟩) rfl rfl rfl (cellsOwn 3 0 0 rfl rfl rfl) ?_
      refine AtL.call tf_body21 (.inr ⟨_, _, _, rfl, rfl, rfl, rfl⟩) rfl rfl (samehead_ok (m := GET) (t := SLA) (minor := 0) (m2 := GET) (t2 := SLA) (minor2 := 0) (fs := [(nm, v)]) (gs := [(nm, v)]) (o23.rd (i := 1) rfl) (o5.rd (i := 4) rfl)) ?_
      rintro _ _ ⟨rfl, rfl⟩
      refine AtL.pickT (.inl rfl) rfl rfl rfl ?_
      refine AtL.move (.inl rfl) rfl rfl ?_
      refine AtL.join 4 (E' := [(68, .bool (decide (v = v))), (0, str nm), (1, str v), (15, .int .i64 1)]) (H' := [(b25, .cells #[str GET, str SLA, .int .i64 0, .slice A19 [(nm, v)].length C20] 24 (0, 0))] :: s22 :: s16 :: [(b7, .cells #[str GET, str SLA, .int .i64 0, .slice A1 [(nm, v)].length C2] 24 (0, 0))] :: s4 :: H) (fun J => ?_) ?_
      · refine AtL.split (t := 64) rfl ?_ ?_
        · intro hs64
          have hs64 : (⟨GET, SLA, 0, [(nm, v)]⟩ : HeadV) = ⟨GET, SLA, 0, [(nm, v)]⟩ := of_decide_eq_true hs64
          refine AtL.move (.inr ⟨_, _, _, rfl, rfl, rfl, rfl⟩) rfl rfl ?_
          refine AtL.move (.inr ⟨_, _, _, rfl, rfl, rfl, rfl⟩) rfl rfl ?_
          refine AtL.eqs (a := v) (b := v) (.inr ⟨_, _, _, rfl, rfl, rfl, rfl⟩) rfl rfl rfl ?_
          refine AtL.pickT (.inl rfl) rfl rfl rfl ?_
          exact J _ (by exact ⟨(boolIs (by clear J; first | (simp [hs64]; done) | (simp_all; done) | grind)), rfl, rfl, rfl, trivial⟩)
        · intro hs64
          exact Bool.noConfusion (hs64.symm.trans (decide_eq_true rfl))
      · skip
        refine AtL.move (.inl rfl) rfl rfl ?_
        refine AtL.join 3 (E' := [(72, .bool true), (0, str nm), (1, str v)]) (H' := [(b25, .cells #[str GET, str SLA, .int .i64 0, .slice A19 [(nm, v)].length C20] 24 (0, 0))] :: s22 :: s16 :: [(b7, .cells #[str GET, str SLA, .int .i64 0, .slice A1 [(nm, v)].length C2] 24 (0, 0))] :: s4 :: H) (fun J => ?_) ?_
        · refine AtL.split (t := 69) rfl ?_ ?_
          · intro hs69
            have hs69 : v = v := of_decide_eq_true hs69
            refine AtL.move (.inr ⟨_, _, _, rfl, rfl, rfl, rfl⟩) rfl rfl ?_
            refine AtL.eqi (.inr ⟨_, _, _, rfl, rfl, rfl, rfl⟩) rfl rfl rfl ?_
            refine AtL.pickT (.inl rfl) rfl rfl rfl ?_
            exact J _ (by exact ⟨rfl, rfl, rfl, trivial⟩)
          · intro hs69
            exact Bool.noConfusion (hs69.symm.trans (decide_eq_true rfl))
        · skip
          refine AtL.move (.inl rfl) rfl rfl ?_
          refine AtL.move (.inr ⟨_, _, _, rfl, rfl, rfl, rfl⟩) rfl rfl ?_
          refine AtL.cat (.inr ⟨_, _, _, rfl, rfl, rfl, rfl⟩) rfl rfl rfl (by first | omega | (simp only [List.length_append, List.length_cons, List.length_nil]; omega) | (simp; omega)) ?_
          refine AtL.cat (.inr ⟨_, _, _, rfl, rfl, rfl, rfl⟩) rfl rfl rfl (by first | omega | (simp only [List.length_append, List.length_cons, List.length_nil]; omega) | (simp; omega)) ?_
          refine AtL.move (.inr ⟨_, _, _, rfl, rfl, rfl, rfl⟩) rfl rfl ?_
          refine AtL.cat (.inr ⟨_, _, _, rfl, rfl, rfl, rfl⟩) rfl rfl rfl (by first | omega | (simp only [List.length_append, List.length_cons, List.length_nil]; omega) | (simp; omega)) ?_
          refine AtL.cat (.inr ⟨_, _, _, rfl, rfl, rfl, rfl⟩) rfl rfl rfl (by first | omega | (simp only [List.length_append, List.length_cons, List.length_nil]; omega) | (simp; omega)) ?_
          refine AtL.call tf_body48 (.inr ⟨_, _, _, rfl, rfl, rfl, rfl⟩) rfl rfl (status_known (b := ((([71, 69, 84, 32, 47, 97, 32, 72, 84, 84, 80, 47, 49, 46, 48, 13, 10] ++ nm) ++ [58, 10]) ++ v) ++ [13, 10, 13, 10]) (show parseF (((([71, 69, 84, 32, 47, 97, 32, 72, 84, 84, 80, 47, 49, 46, 48, 13, 10] ++ nm) ++ [58, 10]) ++ v) ++ [13, 10, 13, 10]) = (.zero, 400) by have := blank_bad nm v hok hv2; rw [← this]; congr 1; simp [L10]) (by simp; omega) T) ?_
          rintro _ _ ⟨rfl, rfl⟩
          refine AtL.eqi (.inr ⟨_, _, _, rfl, rfl, rfl, rfl⟩) rfl rfl rfl ?_
          refine AtL.pickT (.inl rfl) rfl rfl rfl ?_
          refine AtL.assign (.inl rfl) rfl rfl ?_
          refine AtL.done ?_
          refine At.pick (H' := H) [] 5 rfl rfl ?_
          exact At.ret Tryd.func10 rfl rfl (⟨rfl, rfl⟩)

end Go.Proofs.YtlfkoimkojbghaaDoor
