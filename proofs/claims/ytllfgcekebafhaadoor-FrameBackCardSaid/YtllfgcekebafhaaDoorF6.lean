/- The chapter's examples; FramePuts, FrameNone, FrameKnown, walked. -/
import Derived.Test.YtllfgcekebafhaaDoorF5
namespace Go.Proofs.YtllfgcekebafhaaDoor
set_option linter.unusedVariables false
set_option linter.unusedSimpArgs false
set_option maxRecDepth 100000

set_option maxHeartbeats 400000 in
theorem twelve_ok {w0 : World} {base : Nat} {H : List Seg}  :
    SCalls Tryd.prog 29 [] w0 base (H) (fun v H' => ∃ x : Sl tyB 5, x.l = [1, 2, 3, 4, 5, 6, 7, 8, 9, 10, 11, 12] ∧ v = .slice x.A x.l.length x.C ∧ H' = x.s :: H) := by
  refine SCalls.of_walk (n := 2) Tryd.func29 rfl rfl rfl fun cs => ?_
  refine At.seq ?_
  refine At.region ?_
  refine AtL.assign (.inl rfl) rfl rfl ?_
  refine AtL.done ?_
  refine At.seq ?_
  refine At.region ?_
  refine AtL.buildSlice (cs := [.int .u8 1, .int .u8 2, .int .u8 3, .int .u8 4, .int .u8 5, .int .u8 6, .int .u8 7, .int .u8 8, .int .u8 9, .int .u8 10, .int .u8 11, .int .u8 12]) Tryd.underlying22 tf_zero5 tf_sz5 rfl rfl (.inl rfl) rfl rfl rfl ?_
  intro b1
  refine AtL.own1 tyB (l := ([1, 2, 3, 4, 5, 6, 7, 8, 9, 10, 11, 12] : List UInt8)) rfl rfl (by first | decide | simp) ?_
  intro s2 o3
  refine AtL.assign (.inl rfl) rfl rfl ?_
  refine AtL.done ?_
  exact At.ret Tryd.func29 rfl rfl (⟨⟨(some ⟨b1, 0, none⟩), 12, [1, 2, 3, 4, 5, 6, 7, 8, 9, 10, 11, 12], s2, o3⟩, rfl, rfl, rfl⟩)

theorem tw0 : frmE [1, 2, 3, 4, 5, 6, 7, 8, 9, 10, 11, 12] = 0 := by decide
theorem tw1 : frmL [1, 2, 3, 4, 5, 6, 7, 8, 9, 10, 11, 12] = [0, 12, 1, 2, 3, 4, 5, 6, 7, 8, 9, 10, 11, 12] := by decide
theorem tw2 : frmE (subl [1, 2, 3, 4, 5, 6, 7, 8, 9, 10, 11, 12] 0 11) = 4 := by decide
theorem tw3 : subl ([0, 12, 1, 2, 3, 4, 5, 6, 7, 8, 9, 10, 11, 12] : List UInt8) 0 3 = [0, 12, 1] := by decide
theorem tw4 : subl ([0, 12, 1, 2, 3, 4, 5, 6, 7, 8, 9, 10, 11, 12] : List UInt8) 0 1 = [0] := by decide
theorem tw5 : subl ([0, 12, 1, 2, 3, 4, 5, 6, 7, 8, 9, 10, 11, 12] : List UInt8) 1 3 = [12, 1] := by decide
theorem tw6 : subl ([0, 12, 1, 2, 3, 4, 5, 6, 7, 8, 9, 10, 11, 12] : List UInt8) 3 14 = [2, 3, 4, 5, 6, 7, 8, 9, 10, 11, 12] := by decide
theorem k1 : frP false 12 [] [0, 12, 1] = ⟨[], 0, [0, 12, 1]⟩ := by
  have h : frS 12 [0, 12, 1] = ⟨0, 0⟩ := rfl
  rw [frP, if_neg (by decide)]
  exact frF_none (by show (frS 12 [0, 12, 1]).e = 0; rw [h]) (by show (frS 12 [0, 12, 1]).n = 0; rw [h])
theorem k2 : frP false 12 [] [0] = ⟨[], 0, [0]⟩ := by
  have h : frS 12 [0] = ⟨0, 0⟩ := rfl
  rw [frP, if_neg (by decide)]
  exact frF_none (by show (frS 12 [0]).e = 0; rw [h]) (by show (frS 12 [0]).n = 0; rw [h])
theorem k3 : frP false 12 [0] [12, 1] = ⟨[], 0, [0, 12, 1]⟩ := by
  have h : frS 12 [0, 12, 1] = ⟨0, 0⟩ := rfl
  rw [frP, if_neg (by decide)]
  exact frF_none (by show (frS 12 [0, 12, 1]).e = 0; rw [h]) (by show (frS 12 [0, 12, 1]).n = 0; rw [h])
theorem k4 : frP false 12 [0, 12, 1] [2, 3, 4, 5, 6, 7, 8, 9, 10, 11, 12, 0, 13] = ⟨[[1, 2, 3, 4, 5, 6, 7, 8, 9, 10, 11, 12]], 3, []⟩ := by
  have h : frS 12 [0, 12, 1, 2, 3, 4, 5, 6, 7, 8, 9, 10, 11, 12, 0, 13] = ⟨0, 12⟩ := rfl
  have h2 : frS 12 [0, 13] = ⟨3, 0⟩ := rfl
  rw [frP, if_neg (by decide)]
  show frF 12 [0, 12, 1, 2, 3, 4, 5, 6, 7, 8, 9, 10, 11, 12, 0, 13] = _
  rw [frF_more (by rw [h]; decide), h]
  show (⟨_ :: (frF 12 [0, 13]).out, (frF 12 [0, 13]).e, (frF 12 [0, 13]).rest⟩ : FrR) = _
  rw [frF_err (by rw [h2]; decide), h2]
  rfl
theorem kB (b : Bool) (m : Int) (k l : List UInt8) : frB b m k l = if b = true then true else decide ((frP b m k l).e ≠ 0) := by
  unfold frB frP
  split <;> simp_all
theorem k5 (k l : List UInt8) : frP true 12 k l = ⟨[], 9, k⟩ := by rw [frP, if_pos rfl]
theorem kw : wantF [0, 12, 1] = 11 := by decide

set_option maxHeartbeats 400000 in
theorem awake_ok {w0 : World} {base : Nat} {H : List Seg}  :
    SCalls Tryd.prog 9 [] w0 base (H) (fun v H' => v = .bool true ∧ H' = H) := by
  refine SCalls.of_walk (n := 61) Tryd.func9 rfl rfl rfl fun cs => ?_
  refine At.seq ?_
  refine At.region ?_
  refine AtL.assign (.inl rfl) rfl rfl ?_
  refine AtL.done ?_
  refine At.seq ?_
  refine At.region ?_
  refine AtL.call tf_body29 (.inl rfl) rfl rfl twelve_ok ?_
  rintro _ _ ⟨⟨A1, C2, l3, s4, o5⟩, hx6, rfl, rfl⟩
  obtain rfl : [1, 2, 3, 4, 5, 6, 7, 8, 9, 10, 11, 12] = l3 := hx6.symm
  refine AtL.call tf_body11 (.inl rfl) rfl rfl (put_ok (l := [1, 2, 3, 4, 5, 6, 7, 8, 9, 10, 11, 12]) (o5.rd (i := 0) rfl) (by first | omega | (simp only [List.length_append, List.length_cons, List.length_nil]; omega) | (simp; done) | (simp; omega))) ?_
  rintro _ _ ⟨⟨A7, C8, l9, s10, o11⟩, hx12, rfl, rfl⟩
  obtain rfl : frmL [1, 2, 3, 4, 5, 6, 7, 8, 9, 10, 11, 12] = l9 := hx12.symm
  refine AtL.move (.inl rfl) rfl rfl ?_
  refine AtL.extract (.inl rfl) rfl rfl rfl ?_
  refine AtL.extract (.inl rfl) rfl rfl rfl ?_
  refine AtL.assign (.inl rfl) rfl rfl ?_
  refine AtL.assign (.inl rfl) rfl rfl ?_
  refine AtL.done ?_
  refine At.seq ?_
  refine At.region ?_
  refine AtL.call tf_body20 (.inl rfl) rfl rfl (new_ok 12 (by omega)) ?_
  rintro _ _ ⟨b13, rfl, rfl⟩
  refine AtL.move (.inl rfl) rfl rfl ?_
  refine AtL.extract (.inl rfl) rfl rfl rfl ?_
  refine AtL.extract (.inl rfl) rfl rfl rfl ?_
  refine AtL.assign (.inl rfl) rfl rfl ?_
  refine AtL.assign (.inl rfl) rfl rfl ?_
  refine AtL.done ?_
  refine At.seq ?_
  refine At.seq ?_
  refine At.region ?_
  refine AtL.move (.inl rfl) rfl rfl ?_
  refine AtL.nei (.inl rfl) rfl rfl rfl ?_
  refine AtL.move (.inl rfl) rfl rfl ?_
  refine AtL.split (t := 18) rfl ?_ ?_
  · intro hs18
    have hs18 : ¬ ((frmE [1, 2, 3, 4, 5, 6, 7, 8, 9, 10, 11, 12] : Int) = 0) := of_decide_eq_false (bnot_true hs18)
    exfalso; revert hs18; simp [Sl.nil, tw0, tw1, tw2, tw3, tw4, tw5, tw6, k1, k2, k3, k4, kB, k5, kw]
  · intro hs18
    have hs18 : (frmE [1, 2, 3, 4, 5, 6, 7, 8, 9, 10, 11, 12] : Int) = 0 := of_decide_eq_true (bnot_false hs18)
    refine AtL.move (.inr ⟨_, _, _, rfl, rfl, rfl, rfl⟩) rfl rfl ?_
    refine AtL.nei (.inr ⟨_, _, _, rfl, rfl, rfl, rfl⟩) rfl rfl rfl ?_
    refine AtL.pickF (.inl rfl) rfl rfl rfl ?_
    refine AtL.move (.inl rfl) rfl rfl ?_
    refine AtL.move (.inr ⟨_, _, _, rfl, rfl, rfl, rfl⟩) rfl rfl ?_
    refine AtL.eqPtrNil Tryd.underlying39 (.inr ⟨_, _, _, rfl, rfl, rfl, rfl⟩) rfl rfl rfl ?_
    refine AtL.pickF (.inl rfl) rfl rfl rfl ?_
    refine AtL.move (.inl rfl) rfl rfl ?_
    refine AtL.move (.inr ⟨_, _, _, rfl, rfl, rfl, rfl⟩) rfl rfl ?_
    refine AtL.lenL Tryd.underlying22 (.inr ⟨_, _, _, rfl, rfl, rfl, rfl⟩) rfl rfl ?_
    refine AtL.nei (.inr ⟨_, _, _, rfl, rfl, rfl, rfl⟩) rfl rfl rfl ?_
    refine AtL.pickF (.inl rfl) rfl rfl rfl ?_
    refine AtL.move (.inl rfl) rfl rfl ?_
    refine AtL.split (t := 31) rfl ?_ ?_
    · intro hs31
      have hs31 : ¬ (((frmL [1, 2, 3, 4, 5, 6, 7, 8, 9, 10, 11, 12]).length : Int) = 14) := of_decide_eq_false (bnot_true hs31)
      exfalso; revert hs31; simp [Sl.nil, tw0, tw1, tw2, tw3, tw4, tw5, tw6, k1, k2, k3, k4, kB, k5, kw]
    · intro hs31
      have hs31 : ((frmL [1, 2, 3, 4, 5, 6, 7, 8, 9, 10, 11, 12]).length : Int) = 14 := of_decide_eq_true (bnot_false hs31)
      refine AtL.move (.inr ⟨_, _, _, rfl, rfl, rfl, rfl⟩) rfl rfl ?_
      refine AtL.indexL 1 (o11.rd (i := 1) rfl) Tryd.underlying22 tf_sz5 (.inr ⟨_, _, _, rfl, rfl, rfl, rfl⟩) rfl rfl rfl rfl (by omega) ?_
      refine AtL.load (v := .int .u8 (((frmL [1, 2, 3, 4, 5, 6, 7, 8, 9, 10, 11, 12]).getD 1 0).toNat : Int)) tf_flat5 (.inr ⟨_, _, _, rfl, rfl, rfl, rfl⟩) rfl rfl (Rd.cell0 (o11.rd (i := 1) rfl) (getD_some 0 (by omega)) rfl) ?_
      refine AtL.nei (.inr ⟨_, _, _, rfl, rfl, rfl, rfl⟩) rfl rfl rfl ?_
      refine AtL.pickF (.inl rfl) rfl rfl rfl ?_
      refine AtL.done ?_
      refine At.condIs false rfl (by simp [Sl.nil, tw0, tw1, tw2, tw3, tw4, tw5, tw6, k1, k2, k3, k4, kB, k5, kw]) ?_
      refine At.skip ?_
      refine At.seq ?_
      refine At.region ?_
      refine AtL.move (.inl rfl) rfl rfl ?_
      refine AtL.move (.inl rfl) rfl rfl ?_
      have hleo16 := Own.le_cap o11
      refine AtL.sliceO 0 3 C8 o11 rfl (evBound_some rfl rfl) rfl (by intro h; cases h) (by omega) (by omega) (by omega) (Nat.le_refl _) Tryd.underlying22 tf_sz5 (.inl rfl) rfl rfl ?_
      intro A14 C15 o16
      clear hleo16
      have hlo16 : (subl (frmL [1, 2, 3, 4, 5, 6, 7, 8, 9, 10, 11, 12]) 0 3).length = 3 - 0 := subl_len (by omega)
      refine AtL.nil ?_
      refine AtL.call tf_body23 (.inl rfl) rfl rfl (push_ok (y := Sl.nil) (off := 0) (l := subl (frmL [1, 2, 3, 4, 5, 6, 7, 8, 9, 10, 11, 12]) 0 3) (o16.rd (i := 0) rfl) (by simp [Sl.nil, Sl.nil, tw0, tw1, tw2, tw3, tw4, tw5, tw6, k1, k2, k3, k4, kB, k5, kw]) (by first | omega | (dsimp only; omega) | (simp [Sl.nil]; omega) | simp [Sl.nil]) (by omega) (by first | exact fun _ => rfl | assumption | exact frB_e (fun _ => rfl) | exact frB_e (frB_e (fun _ => rfl)) | exact frB_e (frB_e (frB_e (fun _ => rfl))) | exact frB_e (by assumption))) ?_
      rintro _ _ ⟨⟨A17, C18, l19, s20, o21⟩, ys22, ⟨A23, C24, l25, s26, o27⟩, p28, lr29, h30, h31, h32, h33, h34, rfl, rfl⟩
      dsimp only at h30 h32 h33 h34
      try simp only [Sl.nil, List.length_nil, Nat.zero_add] at h33
      have hm35 : l19.map (·.l) = (frP false 12 ([].drop 0) (subl (frmL [1, 2, 3, 4, 5, 6, 7, 8, 9, 10, 11, 12]) 0 3)).out := by rw [h30, List.map_map]; exact h31
      have hm35e : l19 = [] ↔ (frP false 12 ([].drop 0) (subl (frmL [1, 2, 3, 4, 5, 6, 7, 8, 9, 10, 11, 12]) 0 3)).out = [] := by rw [← hm35]; simp
      refine AtL.move (.inl rfl) rfl rfl ?_
      refine AtL.extract (.inl rfl) rfl rfl rfl ?_
      refine AtL.extract (.inl rfl) rfl rfl rfl ?_
      refine AtL.assign (.inl rfl) rfl rfl ?_
      refine AtL.assign (.inl rfl) rfl rfl ?_
      refine AtL.done ?_
      refine At.seq ?_
      refine At.region ?_
      refine AtL.move (.inl rfl) rfl rfl ?_
      refine AtL.lenL Tryd.underlying31 (.inl rfl) rfl rfl ?_
      refine AtL.eqi (.inl rfl) rfl rfl rfl ?_
      refine AtL.move (.inl rfl) rfl rfl ?_
      refine AtL.split (t := 47) rfl ?_ ?_
      · intro hs47
        have hs47 : (l19.length : Int) = 0 := of_decide_eq_true hs47
        refine AtL.move (.inr ⟨_, _, _, rfl, rfl, rfl, rfl⟩) rfl rfl ?_
        refine AtL.eqi (.inr ⟨_, _, _, rfl, rfl, rfl, rfl⟩) rfl rfl rfl ?_
        refine AtL.pickT (.inl rfl) rfl rfl rfl ?_
        refine AtL.move (.inl rfl) rfl rfl ?_
        refine AtL.split (t := 51) rfl ?_ ?_
        · intro hs51
          have hs51 : ((frP false 12 ([].drop 0) (subl (frmL [1, 2, 3, 4, 5, 6, 7, 8, 9, 10, 11, 12]) 0 3)).e : Int) = 0 := of_decide_eq_true hs51
          refine AtL.move (.inr ⟨_, _, _, rfl, rfl, rfl, rfl⟩) rfl rfl ?_
          refine AtL.pick (H' := s26 :: [(b13, .cells #[.int .i64 12, .bool (frB false 12 ([].drop 0) (subl (frmL [1, 2, 3, 4, 5, 6, 7, 8, 9, 10, 11, 12]) 0 3)), .slice A23 l25.length C24, .int .i64 (p28 : Int), .int .i8 lr29, .int .i64 (if false = true then 0 else (frF 12 (([].drop 0) ++ (subl (frmL [1, 2, 3, 4, 5, 6, 7, 8, 9, 10, 11, 12]) 0 3))).e)] 56 (0, 0))] :: s20 :: segsOf ys22 :: s10 :: s4 :: H) [2, 3, 0, 1, 4, 5] 6 rfl rfl ?_
          refine AtL.call tf_body26 (.inr ⟨_, _, _, rfl, rfl, rfl, rfl⟩) rfl rfl (want_ok (y := ⟨A23, C24, l25, s26, o27⟩) (off := p28) (by first | omega | (dsimp only; omega)) (by first | omega | (dsimp only; omega)) (by first | omega | assumption)) ?_
          rintro _ _ ⟨rfl, rfl⟩
          refine AtL.eqi (.inr ⟨_, _, _, rfl, rfl, rfl, rfl⟩) rfl rfl rfl ?_
          refine AtL.pickT (.inl rfl) rfl rfl rfl ?_
          refine AtL.move (.inl rfl) rfl rfl ?_
          refine AtL.split (t := 56) rfl ?_ ?_
          · intro hs56
            have hs56 : (wantF (l25.drop p28) : Int) = 11 := of_decide_eq_true hs56
            refine AtL.move (.inr ⟨_, _, _, rfl, rfl, rfl, rfl⟩) rfl rfl ?_
            refine AtL.call tf_body25 (.inr ⟨_, _, _, rfl, rfl, rfl, rfl⟩) rfl rfl (left_ok (y := ⟨A23, C24, l25, s26, o27⟩) (off := p28) (by first | omega | (dsimp only; omega)) (by first | omega | (dsimp only; omega)) (by first | omega | assumption)) ?_
            rintro _ _ ⟨rfl, rfl⟩
            refine AtL.eqi (.inr ⟨_, _, _, rfl, rfl, rfl, rfl⟩) rfl rfl rfl ?_
            refine AtL.pickT (.inl rfl) rfl rfl rfl ?_
            refine AtL.assign (.inl rfl) rfl rfl ?_
            refine AtL.done ?_
            refine At.pick (H' := H) [] 6 rfl rfl ?_
            exact At.ret Tryd.func9 rfl rfl (⟨congrArg Value.bool (show (decide (((l25.drop p28).length : Int) = 3)) = true by simp [Sl.nil, tw0, tw1, tw2, tw3, tw4, tw5, tw6, k1, k2, k3, k4, kB, k5, kw, h34, hm35, hm35e]), rfl⟩)
          · intro hs56
            have hs56 : ¬ ((wantF (l25.drop p28) : Int) = 11) := of_decide_eq_false hs56
            exfalso; revert hs56; simp [Sl.nil, tw0, tw1, tw2, tw3, tw4, tw5, tw6, k1, k2, k3, k4, kB, k5, kw, h34, hm35, hm35e]
        · intro hs51
          have hs51 : ¬ (((frP false 12 ([].drop 0) (subl (frmL [1, 2, 3, 4, 5, 6, 7, 8, 9, 10, 11, 12]) 0 3)).e : Int) = 0) := of_decide_eq_false hs51
          exfalso; revert hs51; simp [Sl.nil, tw0, tw1, tw2, tw3, tw4, tw5, tw6, k1, k2, k3, k4, kB, k5, kw, h34, hm35, hm35e]
      · intro hs47
        have hs47 : ¬ ((l19.length : Int) = 0) := of_decide_eq_false hs47
        exfalso; revert hs47; simp [Sl.nil, tw0, tw1, tw2, tw3, tw4, tw5, tw6, k1, k2, k3, k4, kB, k5, kw, h34, hm35, hm35e]

set_option maxHeartbeats 400000 in
theorem puts_ok {w0 : World} {base : Nat} {H : List Seg} {A : Option Addr} {C : Nat} {l : List UInt8} (h : Rd tyB w0 base H A C l) :
    SCalls Tryd.prog 3 [.slice A l.length C] w0 base (H) (fun v H' => v = .bool true ∧ H' = H) := by
  refine SCalls.of_walk (n := 56) Tryd.func3 rfl rfl rfl fun cs => ?_
  refine At.seq ?_
  refine At.region ?_
  refine AtL.assign (.inl rfl) rfl rfl ?_
  refine AtL.done ?_
  refine At.seq ?_
  refine At.seq ?_
  refine At.region ?_
  refine AtL.move (.inl rfl) rfl rfl ?_
  refine AtL.lenL Tryd.underlying22 (.inl rfl) rfl rfl ?_
  refine AtL.gtr (.inl rfl) rfl rfl rfl ?_
  refine AtL.done ?_
  refine At.cond rfl ?_ ?_
  · intro hc1
    have hc1 : 70000 < (l.length : Int) := of_decide_eq_true hc1
    refine At.seq ?_
    refine At.region ?_
    refine AtL.call tf_body9 (.inl rfl) rfl rfl awake_ok ?_
    rintro _ _ ⟨rfl, hHq⟩
    obtain rfl := hHq.symm
    refine AtL.assign (.inl rfl) rfl rfl ?_
    refine AtL.done ?_
    exact At.ret Tryd.func3 rfl rfl (⟨rfl, rfl⟩)
  · intro hc1
    have hc1 : ¬ (70000 < (l.length : Int)) := of_decide_eq_false hc1
    refine At.skip ?_
    refine At.seq ?_
    refine At.region ?_
    refine AtL.move (.inl rfl) rfl rfl ?_
    refine AtL.call tf_body10 (.inl rfl) rfl rfl (lent_ok (l := l) h (by omega)) ?_
    rintro _ _ ⟨A1, s2, o3, rfl, rfl⟩
    refine AtL.assign (.inl rfl) rfl rfl ?_
    refine AtL.done ?_
    refine At.seq ?_
    refine At.region ?_
    refine AtL.move (.inl rfl) rfl rfl ?_
    refine AtL.call tf_body11 (.inl rfl) rfl rfl (put_ok (l := l) (OwnR.rd o3 (i := 0) rfl) (by first | omega | (simp only [List.length_append, List.length_cons, List.length_nil]; omega) | (simp; done) | (simp; omega))) ?_
    rintro _ _ ⟨⟨A4, C5, l6, s7, o8⟩, hx9, rfl, rfl⟩
    obtain rfl : frmL l = l6 := hx9.symm
    refine AtL.move (.inl rfl) rfl rfl ?_
    refine AtL.extract (.inl rfl) rfl rfl rfl ?_
    refine AtL.extract (.inl rfl) rfl rfl rfl ?_
    refine AtL.assign (.inl rfl) rfl rfl ?_
    refine AtL.assign (.inl rfl) rfl rfl ?_
    refine AtL.done ?_
    refine At.seq ?_
    refine At.region ?_
    refine AtL.move (.inl rfl) rfl rfl ?_
    refine AtL.call tf_body12 (.inl rfl) rfl rfl (rput_ok (l := l) (Rd.skip 2 h) (by first | omega | (simp only [List.length_append, List.length_cons, List.length_nil]; omega) | (simp; done) | (simp; omega))) ?_
    rintro _ _ ⟨⟨A10, C11, l12, s13, o14⟩, hx15, rfl, rfl⟩
    obtain rfl : frmL l = l12 := hx15.symm
    refine AtL.move (.inl rfl) rfl rfl ?_
    refine AtL.extract (.inl rfl) rfl rfl rfl ?_
    refine AtL.extract (.inl rfl) rfl rfl rfl ?_
    refine AtL.assign (.inl rfl) rfl rfl ?_
    refine AtL.assign (.inl rfl) rfl rfl ?_
    refine AtL.done ?_
    refine At.seq ?_
    refine At.region ?_
    refine AtL.move (.inl rfl) rfl rfl ?_
    refine AtL.call tf_body11 (.inl rfl) rfl rfl (put_ok (l := l) (OwnR.rd o3 (i := 2) rfl) (by first | omega | (simp only [List.length_append, List.length_cons, List.length_nil]; omega) | (simp; done) | (simp; omega))) ?_
    rintro _ _ ⟨⟨A16, C17, l18, s19, o20⟩, hx21, rfl, rfl⟩
    obtain rfl : frmL l = l18 := hx21.symm
    refine AtL.move (.inl rfl) rfl rfl ?_
    refine AtL.extract (.inl rfl) rfl rfl rfl ?_
    refine AtL.extract (.inl rfl) rfl rfl rfl ?_
    refine AtL.assign (.inl rfl) rfl rfl ?_
    refine AtL.assign (.inl rfl) rfl rfl ?_
    refine AtL.done ?_
    refine At.seq ?_
    refine At.region ?_
    refine AtL.move (.inl rfl) rfl rfl ?_
    refine AtL.pick (H' := s7 :: s19 :: s13 :: s2 :: H) [2, 0, 1, 3] 4 rfl rfl ?_
    refine AtL.call tf_body13 (.inl rfl) rfl rfl (over_own o8) ?_
    rintro _ _ ⟨s22, rfl, rfl⟩
    refine AtL.done ?_
    refine At.seq ?_
    refine At.region ?_
    refine AtL.move (.inl rfl) rfl rfl ?_
    refine AtL.move (.inl rfl) rfl rfl ?_
    refine AtL.eqi (.inl rfl) rfl rfl rfl ?_
    refine AtL.move (.inl rfl) rfl rfl ?_
    refine AtL.split (t := 36) rfl ?_ ?_
    · intro hs36
      have hs36 : (frmE l : Int) = (frmE l) := of_decide_eq_true hs36
      refine AtL.move (.inr ⟨_, _, _, rfl, rfl, rfl, rfl⟩) rfl rfl ?_
      refine AtL.lenL Tryd.underlying22 (.inr ⟨_, _, _, rfl, rfl, rfl, rfl⟩) rfl rfl ?_
      refine AtL.move (.inr ⟨_, _, _, rfl, rfl, rfl, rfl⟩) rfl rfl ?_
      refine AtL.lenL Tryd.underlying22 (.inr ⟨_, _, _, rfl, rfl, rfl, rfl⟩) rfl rfl ?_
      refine AtL.eqi (.inr ⟨_, _, _, rfl, rfl, rfl, rfl⟩) rfl rfl rfl ?_
      refine AtL.pickT (.inl rfl) rfl rfl rfl ?_
      refine AtL.move (.inl rfl) rfl rfl ?_
      refine AtL.split (t := 43) rfl ?_ ?_
      · intro hs43
        have hs43 : ((frmL l).length : Int) = ((frmL l).length : Int) := of_decide_eq_true hs43
        refine AtL.move (.inr ⟨_, _, _, rfl, rfl, rfl, rfl⟩) rfl rfl ?_
        refine AtL.move (.inr ⟨_, _, _, rfl, rfl, rfl, rfl⟩) rfl rfl ?_
        refine AtL.call tf_body14 (.inr ⟨_, _, _, rfl, rfl, rfl, rfl⟩) rfl rfl (same_ok (l := frmL l) (l2 := frmL l) (o20.rd (i := 1) rfl) (o14.rd (i := 2) rfl)) ?_
        rintro _ _ ⟨rfl, rfl⟩
        refine AtL.pickT (.inl rfl) rfl rfl rfl ?_
        refine AtL.move (.inl rfl) rfl rfl ?_
        refine AtL.split (t := 48) rfl ?_ ?_
        · intro hs48
          have hs48 : frmL l = frmL l := of_decide_eq_true hs48
          refine AtL.move (.inr ⟨_, _, _, rfl, rfl, rfl, rfl⟩) rfl rfl ?_
          refine AtL.move (.inr ⟨_, _, _, rfl, rfl, rfl, rfl⟩) rfl rfl ?_
          refine AtL.pick (H' := s2 :: s22 :: s19 :: s13 :: H) [3, 0, 1, 2] 4 rfl rfl ?_
          refine AtL.call tf_body15 (.inr ⟨_, _, _, rfl, rfl, rfl, rfl⟩) rfl rfl (kept_ok o3 (Rd.skip 3 h) (by omega)) ?_
          rintro _ _ ⟨s23, rfl, rfl⟩
          refine AtL.pickT (.inl rfl) rfl rfl rfl ?_
          refine AtL.move (.inl rfl) rfl rfl ?_
          refine AtL.call tf_body9 (.inr ⟨_, _, _, rfl, rfl, rfl, rfl⟩) rfl rfl awake_ok ?_
          rintro _ _ ⟨rfl, rfl⟩
          refine AtL.pickT (.inl rfl) rfl rfl rfl ?_
          refine AtL.assign (.inl rfl) rfl rfl ?_
          refine AtL.done ?_
          refine At.pick (H' := H) [] 5 rfl rfl ?_
          exact At.ret Tryd.func3 rfl rfl (⟨rfl, rfl⟩)
        · intro hs48
          exact Bool.noConfusion (hs48.symm.trans (decide_eq_true rfl))
      · intro hs43
        exact Bool.noConfusion (hs43.symm.trans (decide_eq_true rfl))
    · intro hs36
      exact Bool.noConfusion (hs36.symm.trans (decide_eq_true rfl))

set_option maxHeartbeats 400000 in
theorem fnone_ok {w0 : World} {base : Nat} {H : List Seg} {A : Option Addr} {C : Nat} {l : List UInt8} (h : Rd tyB w0 base H A C l) :
    SCalls Tryd.prog 6 [.slice A l.length C] w0 base (H) (fun v H' => v = .bool true ∧ H' = H) := by
  refine SCalls.of_walk (n := 60) Tryd.func6 rfl rfl rfl fun cs => ?_
  refine At.seq ?_
  refine At.region ?_
  refine AtL.assign (.inl rfl) rfl rfl ?_
  refine AtL.done ?_
  refine At.seq ?_
  refine At.seq ?_
  refine At.region ?_
  refine AtL.move (.inl rfl) rfl rfl ?_
  refine AtL.lenL Tryd.underlying22 (.inl rfl) rfl rfl ?_
  refine AtL.gtr (.inl rfl) rfl rfl rfl ?_
  refine AtL.done ?_
  refine At.cond rfl ?_ ?_
  · intro hc1
    have hc1 : 1000 < (l.length : Int) := of_decide_eq_true hc1
    refine At.seq ?_
    refine At.region ?_
    refine AtL.call tf_body9 (.inl rfl) rfl rfl awake_ok ?_
    rintro _ _ ⟨rfl, hHq⟩
    obtain rfl := hHq.symm
    refine AtL.assign (.inl rfl) rfl rfl ?_
    refine AtL.done ?_
    exact At.ret Tryd.func6 rfl rfl (⟨rfl, rfl⟩)
  · intro hc1
    have hc1 : ¬ (1000 < (l.length : Int)) := of_decide_eq_false hc1
    refine At.skip ?_
    refine At.seq ?_
    refine At.region ?_
    refine AtL.assign (.inl rfl) rfl rfl ?_
    refine AtL.done ?_
    refine At.seq ?_
    refine At.region ?_
    refine AtL.move (.inl rfl) rfl rfl ?_
    refine AtL.build (cs := [.int .i64 0, .bool false, .slice none 0 0, .int .i64 0, .int .i8 0, .int .i64 0]) tf_lay56 (.inl rfl) rfl rfl rfl ?_
    refine AtL.box (cs := #[.int .i64 0, .bool false, .slice none 0 0, .int .i64 0, .int .i8 0, .int .i64 0]) rfl (.inl rfl) rfl rfl ?_
    intro b1
    refine AtL.buildSlice (cs := [.pointer none, .pointer (some ⟨b1, 0, none⟩)]) Tryd.underlying57 tf_zero39 tf_sz39 rfl rfl (.inl rfl) rfl rfl rfl ?_
    intro b2
    refine AtL.assign (.inl rfl) rfl rfl ?_
    refine AtL.done ?_
    refine At.seq ?_
    refine At.seq ?_
    refine At.region ?_
    refine AtL.assign (.inl rfl) rfl rfl ?_
    refine AtL.done ?_
    refine At.block ?_
    refine At.unroll ?_
    refine At.seq ?_
    refine At.seq ?_
    refine At.region ?_
    refine AtL.move (.inl rfl) rfl rfl ?_
    refine AtL.lss (.inl rfl) rfl rfl rfl ?_
    refine AtL.done ?_
    refine At.condT rfl ?_
    refine At.skip ?_
    refine At.seq ?_
    refine At.block ?_
    refine At.seq ?_
    refine At.region ?_
    refine AtL.move (.inl rfl) rfl rfl ?_
    refine AtL.move (.inl rfl) rfl rfl ?_
    refine AtL.indexB 0 Tryd.underlying57 tf_sz39 (.inl rfl) rfl rfl rfl rfl rfl rfl ?_
    refine AtL.load tf_flat39 (.inl rfl) rfl rfl (Cell.own 0 0 rfl rfl rfl) ?_
    refine AtL.move (.inl rfl) rfl rfl ?_
    refine AtL.call tf_body23 (.inl rfl) rfl rfl push_nil ?_
    rintro _ _ ⟨rfl, rfl⟩
    refine AtL.move (.inl rfl) rfl rfl ?_
    refine AtL.extract (.inl rfl) rfl rfl rfl ?_
    refine AtL.extract (.inl rfl) rfl rfl rfl ?_
    refine AtL.assign (.inl rfl) rfl rfl ?_
    refine AtL.assign (.inl rfl) rfl rfl ?_
    refine AtL.done ?_
    refine At.seq ?_
    refine At.region ?_
    refine AtL.move (.inl rfl) rfl rfl ?_
    refine AtL.lenL Tryd.underlying31 (.inl rfl) rfl rfl ?_
    refine AtL.nei (.inl rfl) rfl rfl rfl ?_
    refine AtL.move (.inl rfl) rfl rfl ?_
    refine AtL.move (.inr ⟨_, _, _, rfl, rfl, rfl, rfl⟩) rfl rfl ?_
    refine AtL.nei (.inr ⟨_, _, _, rfl, rfl, rfl, rfl⟩) rfl rfl rfl ?_
    refine AtL.pickF (.inl rfl) rfl rfl rfl ?_
    refine AtL.move (.inl rfl) rfl rfl ?_
    refine AtL.move (.inr ⟨_, _, _, rfl, rfl, rfl, rfl⟩) rfl rfl ?_
    refine AtL.move (.inr ⟨_, _, _, rfl, rfl, rfl, rfl⟩) rfl rfl ?_
    refine AtL.indexB 0 Tryd.underlying57 tf_sz39 (.inr ⟨_, _, _, rfl, rfl, rfl, rfl⟩) rfl rfl rfl rfl rfl rfl ?_
    refine AtL.load tf_flat39 (.inr ⟨_, _, _, rfl, rfl, rfl, rfl⟩) rfl rfl (Cell.own 0 0 rfl rfl rfl) ?_
    refine AtL.call tf_body25 (.inr ⟨_, _, _, rfl, rfl, rfl, rfl⟩) rfl rfl left_nil ?_
    rintro _ _ ⟨rfl, rfl⟩
    refine AtL.nei (.inr ⟨_, _, _, rfl, rfl, rfl, rfl⟩) rfl rfl rfl ?_
    refine AtL.pickF (.inl rfl) rfl rfl rfl ?_
    refine AtL.move (.inl rfl) rfl rfl ?_
    refine AtL.move (.inr ⟨_, _, _, rfl, rfl, rfl, rfl⟩) rfl rfl ?_
    refine AtL.move (.inr ⟨_, _, _, rfl, rfl, rfl, rfl⟩) rfl rfl ?_
    refine AtL.indexB 0 Tryd.underlying57 tf_sz39 (.inr ⟨_, _, _, rfl, rfl, rfl, rfl⟩) rfl rfl rfl rfl rfl rfl ?_
    refine AtL.load tf_flat39 (.inr ⟨_, _, _, rfl, rfl, rfl, rfl⟩) rfl rfl (Cell.own 0 0 rfl rfl rfl) ?_
    refine AtL.call tf_body26 (.inr ⟨_, _, _, rfl, rfl, rfl, rfl⟩) rfl rfl want_nil ?_
    rintro _ _ ⟨rfl, rfl⟩
    refine AtL.nei (.inr ⟨_, _, _, rfl, rfl, rfl, rfl⟩) rfl rfl rfl ?_
    refine AtL.pickF (.inl rfl) rfl rfl rfl ?_
    refine AtL.move (.inl rfl) rfl rfl ?_
    refine AtL.move (.inr ⟨_, _, _, rfl, rfl, rfl, rfl⟩) rfl rfl ?_
    refine AtL.move (.inr ⟨_, _, _, rfl, rfl, rfl, rfl⟩) rfl rfl ?_
    refine AtL.indexB 0 Tryd.underlying57 tf_sz39 (.inr ⟨_, _, _, rfl, rfl, rfl, rfl⟩) rfl rfl rfl rfl rfl rfl ?_
    refine AtL.load tf_flat39 (.inr ⟨_, _, _, rfl, rfl, rfl, rfl⟩) rfl rfl (Cell.own 0 0 rfl rfl rfl) ?_
    refine AtL.call tf_body28 (.inr ⟨_, _, _, rfl, rfl, rfl, rfl⟩) rfl rfl broken_nil ?_
    rintro _ _ ⟨rfl, rfl⟩
    refine AtL.pickF (.inl rfl) rfl rfl rfl ?_
    refine AtL.done ?_
    refine At.condF rfl ?_
    refine At.skip ?_
    refine At.inBlock ?_
    refine At.region ?_
    refine AtL.move (.inl rfl) rfl rfl ?_
    refine AtL.add (z := 1) (.inl rfl) rfl rfl rfl (by decide) ?_
    refine AtL.assign (.inl rfl) rfl rfl ?_
    refine AtL.done ?_
    refine At.again ?_
    refine At.seq ?_
    refine At.seq ?_
    refine At.region ?_
    refine AtL.move (.inl rfl) rfl rfl ?_
    refine AtL.lss (.inl rfl) rfl rfl rfl ?_
    refine AtL.done ?_
    refine At.condT rfl ?_
    refine At.skip ?_
    refine At.seq ?_
    refine At.block ?_
    refine At.seq ?_
    refine At.region ?_
    refine AtL.move (.inl rfl) rfl rfl ?_
    refine AtL.move (.inl rfl) rfl rfl ?_
    refine AtL.indexB 1 Tryd.underlying57 tf_sz39 (.inl rfl) rfl rfl rfl rfl rfl rfl ?_
    refine AtL.load tf_flat39 (.inl rfl) rfl rfl (Cell.own 0 0 rfl rfl rfl) ?_
    refine AtL.move (.inl rfl) rfl rfl ?_
    refine AtL.pick (H' := [(b1, .cells #[.int .i64 0, .bool false, .slice none 0 0, .int .i64 0, .int .i8 0, .int .i64 0] 56 (0, 0))] :: [(b2, .cells #[.pointer none, .pointer (some ⟨b1, 0, none⟩)] 39 (0, 0))] :: H) [1, 0] 2 rfl rfl ?_
    refine AtL.call tf_body23 (.inl rfl) rfl rfl push_zero ?_
    rintro _ _ ⟨rfl, rfl⟩
    refine AtL.move (.inl rfl) rfl rfl ?_
    refine AtL.extract (.inl rfl) rfl rfl rfl ?_
    refine AtL.extract (.inl rfl) rfl rfl rfl ?_
    refine AtL.assign (.inl rfl) rfl rfl ?_
    refine AtL.assign (.inl rfl) rfl rfl ?_
    refine AtL.done ?_
    refine At.seq ?_
    refine At.region ?_
    refine AtL.move (.inl rfl) rfl rfl ?_
    refine AtL.lenL Tryd.underlying31 (.inl rfl) rfl rfl ?_
    refine AtL.nei (.inl rfl) rfl rfl rfl ?_
    refine AtL.move (.inl rfl) rfl rfl ?_
    refine AtL.move (.inr ⟨_, _, _, rfl, rfl, rfl, rfl⟩) rfl rfl ?_
    refine AtL.nei (.inr ⟨_, _, _, rfl, rfl, rfl, rfl⟩) rfl rfl rfl ?_
    refine AtL.pickF (.inl rfl) rfl rfl rfl ?_
    refine AtL.move (.inl rfl) rfl rfl ?_
    refine AtL.move (.inr ⟨_, _, _, rfl, rfl, rfl, rfl⟩) rfl rfl ?_
    refine AtL.move (.inr ⟨_, _, _, rfl, rfl, rfl, rfl⟩) rfl rfl ?_
    refine AtL.indexB 1 Tryd.underlying57 tf_sz39 (.inr ⟨_, _, _, rfl, rfl, rfl, rfl⟩) rfl rfl rfl rfl rfl rfl ?_
    refine AtL.load tf_flat39 (.inr ⟨_, _, _, rfl, rfl, rfl, rfl⟩) rfl rfl (Cell.own 1 0 rfl rfl rfl) ?_
    refine AtL.call tf_body25 (.inr ⟨_, _, _, rfl, rfl, rfl, rfl⟩) rfl rfl left_zero ?_
    rintro _ _ ⟨rfl, rfl⟩
    refine AtL.nei (.inr ⟨_, _, _, rfl, rfl, rfl, rfl⟩) rfl rfl rfl ?_
    refine AtL.pickF (.inl rfl) rfl rfl rfl ?_
    refine AtL.move (.inl rfl) rfl rfl ?_
    refine AtL.move (.inr ⟨_, _, _, rfl, rfl, rfl, rfl⟩) rfl rfl ?_
    refine AtL.move (.inr ⟨_, _, _, rfl, rfl, rfl, rfl⟩) rfl rfl ?_
    refine AtL.indexB 1 Tryd.underlying57 tf_sz39 (.inr ⟨_, _, _, rfl, rfl, rfl, rfl⟩) rfl rfl rfl rfl rfl rfl ?_
    refine AtL.load tf_flat39 (.inr ⟨_, _, _, rfl, rfl, rfl, rfl⟩) rfl rfl (Cell.own 1 0 rfl rfl rfl) ?_
    refine AtL.call tf_body26 (.inr ⟨_, _, _, rfl, rfl, rfl, rfl⟩) rfl rfl want_zero ?_
    rintro _ _ ⟨rfl, rfl⟩
    refine AtL.nei (.inr ⟨_, _, _, rfl, rfl, rfl, rfl⟩) rfl rfl rfl ?_
    refine AtL.pickF (.inl rfl) rfl rfl rfl ?_
    refine AtL.move (.inl rfl) rfl rfl ?_
    refine AtL.move (.inr ⟨_, _, _, rfl, rfl, rfl, rfl⟩) rfl rfl ?_
    refine AtL.move (.inr ⟨_, _, _, rfl, rfl, rfl, rfl⟩) rfl rfl ?_
    refine AtL.indexB 1 Tryd.underlying57 tf_sz39 (.inr ⟨_, _, _, rfl, rfl, rfl, rfl⟩) rfl rfl rfl rfl rfl rfl ?_
    refine AtL.load tf_flat39 (.inr ⟨_, _, _, rfl, rfl, rfl, rfl⟩) rfl rfl (Cell.own 1 0 rfl rfl rfl) ?_
    refine AtL.call tf_body28 (.inr ⟨_, _, _, rfl, rfl, rfl, rfl⟩) rfl rfl broken_ok ?_
    rintro _ _ ⟨rfl, rfl⟩
    refine AtL.pickF (.inl rfl) rfl rfl rfl ?_
    refine AtL.done ?_
    refine At.condF rfl ?_
    refine At.skip ?_
    refine At.inBlock ?_
    refine At.region ?_
    refine AtL.move (.inl rfl) rfl rfl ?_
    refine AtL.add (z := 2) (.inl rfl) rfl rfl rfl (by decide) ?_
    refine AtL.assign (.inl rfl) rfl rfl ?_
    refine AtL.done ?_
    refine At.again ?_
    refine At.seq ?_
    refine At.seq ?_
    refine At.region ?_
    refine AtL.move (.inl rfl) rfl rfl ?_
    refine AtL.lss (.inl rfl) rfl rfl rfl ?_
    refine AtL.done ?_
    refine At.condF rfl ?_
    refine At.exit rfl ?_
    refine At.seq ?_
    refine At.region ?_
    refine AtL.call tf_body9 (.inl rfl) rfl rfl awake_ok ?_
    rintro _ _ ⟨rfl, rfl⟩
    refine AtL.assign (.inl rfl) rfl rfl ?_
    refine AtL.done ?_
    refine At.pick (H' := H) [] 2 rfl rfl ?_
    exact At.ret Tryd.func6 rfl rfl (⟨rfl, rfl⟩)

set_option maxHeartbeats 400000 in
theorem known_ok {w0 : World} {base : Nat} {H : List Seg}  :
    SCalls Tryd.prog 7 [] w0 base (H) (fun v H' => v = .bool true ∧ H' = H) := by
  refine SCalls.of_walk (n := 108) Tryd.func7 rfl rfl rfl fun cs => ?_
  refine At.seq ?_
  refine At.region ?_
  refine AtL.assign (.inl rfl) rfl rfl ?_
  refine AtL.done ?_
  refine At.seq ?_
  refine At.region ?_
  refine AtL.call tf_body29 (.inl rfl) rfl rfl twelve_ok ?_
  rintro _ _ ⟨⟨A1, C2, l3, s4, o5⟩, hx6, rfl, rfl⟩
  obtain rfl : [1, 2, 3, 4, 5, 6, 7, 8, 9, 10, 11, 12] = l3 := hx6.symm
  refine AtL.call tf_body11 (.inl rfl) rfl rfl (put_ok (l := [1, 2, 3, 4, 5, 6, 7, 8, 9, 10, 11, 12]) (o5.rd (i := 0) rfl) (by first | omega | (simp only [List.length_append, List.length_cons, List.length_nil, subl]; omega) | (simp [subl]; done) | (simp [subl]; omega))) ?_
  rintro _ _ ⟨⟨A7, C8, l9, s10, o11⟩, hx12, rfl, rfl⟩
  obtain rfl : frmL [1, 2, 3, 4, 5, 6, 7, 8, 9, 10, 11, 12] = l9 := hx12.symm
  refine AtL.move (.inl rfl) rfl rfl ?_
  refine AtL.extract (.inl rfl) rfl rfl rfl ?_
  refine AtL.extract (.inl rfl) rfl rfl rfl ?_
  refine AtL.assign (.inl rfl) rfl rfl ?_
  refine AtL.assign (.inl rfl) rfl rfl ?_
  refine AtL.done ?_
  refine At.seq ?_
  refine At.region ?_
  refine AtL.call tf_body20 (.inl rfl) rfl rfl (new_ok 12 (by omega)) ?_
  rintro _ _ ⟨b13, rfl, rfl⟩
  refine AtL.move (.inl rfl) rfl rfl ?_
  refine AtL.extract (.inl rfl) rfl rfl rfl ?_
  refine AtL.extract (.inl rfl) rfl rfl rfl ?_
  refine AtL.assign (.inl rfl) rfl rfl ?_
  refine AtL.assign (.inl rfl) rfl rfl ?_
  refine AtL.done ?_
  refine At.seq ?_
  refine At.region ?_
  refine AtL.call tf_body29 (.inl rfl) rfl rfl twelve_ok ?_
  rintro _ _ ⟨⟨A14, C15, l16, s17, o18⟩, hx19, rfl, rfl⟩
  obtain rfl : [1, 2, 3, 4, 5, 6, 7, 8, 9, 10, 11, 12] = l16 := hx19.symm
  have h12 : ([1, 2, 3, 4, 5, 6, 7, 8, 9, 10, 11, 12] : List UInt8).length = 12 := rfl
  have hleo22 := Own.le_cap o18
  refine AtL.sliceO 0 11 C15 o18 rfl (evBound_some rfl rfl) rfl (by intro h; cases h) (by omega) (by omega) (by omega) (Nat.le_refl _) Tryd.underlying22 tf_sz5 (.inl rfl) rfl rfl ?_
  intro A20 C21 o22
  clear hleo22
  have hlo22 : (subl [1, 2, 3, 4, 5, 6, 7, 8, 9, 10, 11, 12] 0 11).length = 11 - 0 := subl_len (by omega)
  refine AtL.call tf_body11 (.inl rfl) rfl rfl (put_ok (l := subl [1, 2, 3, 4, 5, 6, 7, 8, 9, 10, 11, 12] 0 11) (o22.rd (i := 0) rfl) (by first | omega | (simp only [List.length_append, List.length_cons, List.length_nil, subl]; omega) | (simp [subl]; done) | (simp [subl]; omega))) ?_
  rintro _ _ ⟨⟨A23, C24, l25, s26, o27⟩, hx28, rfl, rfl⟩
  obtain rfl : frmL (subl [1, 2, 3, 4, 5, 6, 7, 8, 9, 10, 11, 12] 0 11) = l25 := hx28.symm
  refine AtL.move (.inl rfl) rfl rfl ?_
  refine AtL.extract (.inl rfl) rfl rfl rfl ?_
  refine AtL.extract (.inl rfl) rfl rfl rfl ?_
  refine AtL.assign (.inl rfl) rfl rfl ?_
  refine AtL.assign (.inl rfl) rfl rfl ?_
  refine AtL.done ?_
  refine At.seq ?_
  refine At.region ?_
  refine AtL.call tf_body20 (.inl rfl) rfl rfl (new_bad 11 (by omega)) ?_
  rintro _ _ ⟨rfl, rfl⟩
  refine AtL.move (.inl rfl) rfl rfl ?_
  refine AtL.extract (.inl rfl) rfl rfl rfl ?_
  refine AtL.extract (.inl rfl) rfl rfl rfl ?_
  refine AtL.assign (.inl rfl) rfl rfl ?_
  refine AtL.assign (.inl rfl) rfl rfl ?_
  refine AtL.done ?_
  refine At.seq ?_
  refine At.region ?_
  refine AtL.call tf_body20 (.inl rfl) rfl rfl (new_bad 65536 (by omega)) ?_
  rintro _ _ ⟨rfl, rfl⟩
  refine AtL.move (.inl rfl) rfl rfl ?_
  refine AtL.extract (.inl rfl) rfl rfl rfl ?_
  refine AtL.extract (.inl rfl) rfl rfl rfl ?_
  refine AtL.assign (.inl rfl) rfl rfl ?_
  refine AtL.assign (.inl rfl) rfl rfl ?_
  refine AtL.done ?_
  refine At.seq ?_
  refine At.seq ?_
  refine At.region ?_
  refine AtL.move (.inl rfl) rfl rfl ?_
  refine AtL.lenL Tryd.underlying22 (.inl rfl) rfl rfl ?_
  refine AtL.nei (.inl rfl) rfl rfl rfl ?_
  refine AtL.move (.inl rfl) rfl rfl ?_
  refine AtL.split (t := 41) rfl ?_ ?_
  · intro hs41
    have hs41 : ¬ (((frmL [1, 2, 3, 4, 5, 6, 7, 8, 9, 10, 11, 12]).length : Int) = 14) := of_decide_eq_false (bnot_true hs41)
    exfalso; revert hs41; simp [Sl.nil, tw0, tw1, tw2, tw3, tw4, tw5, tw6, k1, k2, k3, k4, kB, k5, kw]
  · intro hs41
    have hs41 : ((frmL [1, 2, 3, 4, 5, 6, 7, 8, 9, 10, 11, 12]).length : Int) = 14 := of_decide_eq_true (bnot_false hs41)
    refine AtL.move (.inr ⟨_, _, _, rfl, rfl, rfl, rfl⟩) rfl rfl ?_
    refine AtL.nei (.inr ⟨_, _, _, rfl, rfl, rfl, rfl⟩) rfl rfl rfl ?_
    refine AtL.pickF (.inl rfl) rfl rfl rfl ?_
    refine AtL.move (.inl rfl) rfl rfl ?_
    refine AtL.move (.inr ⟨_, _, _, rfl, rfl, rfl, rfl⟩) rfl rfl ?_
    refine AtL.eqPtrNil Tryd.underlying39 (.inr ⟨_, _, _, rfl, rfl, rfl, rfl⟩) rfl rfl rfl ?_
    refine AtL.pickF (.inl rfl) rfl rfl rfl ?_
    refine AtL.done ?_
    have h14 : (frmL [1, 2, 3, 4, 5, 6, 7, 8, 9, 10, 11, 12]).length = 14 := by rw [tw1]; rfl
    refine At.condF rfl ?_
    refine At.skip ?_
    refine At.seq ?_
    refine At.region ?_
    refine AtL.move (.inl rfl) rfl rfl ?_
    refine AtL.move (.inl rfl) rfl rfl ?_
    have hleo31 := Own.le_cap o11
    refine AtL.sliceO 0 1 C8 o11 rfl (evBound_some rfl rfl) rfl (by intro h; cases h) (by omega) (by omega) (by omega) (Nat.le_refl _) Tryd.underlying22 tf_sz5 (.inl rfl) rfl rfl ?_
    intro A29 C30 o31
    clear hleo31
    have hlo31 : (subl (frmL [1, 2, 3, 4, 5, 6, 7, 8, 9, 10, 11, 12]) 0 1).length = 1 - 0 := subl_len (by omega)
    refine AtL.nil ?_
    refine AtL.pick (H' := [] :: [(b13, .cells #[.int .i64 12, .bool false, .slice none 0 0, .int .i64 0, .int .i8 0, .int .i64 0] 56 (0, 0))] :: s26 :: s17 :: s10 :: s4 :: H) [0, 3, 1, 2, 4, 5] 6 rfl rfl ?_
    refine AtL.call tf_body23 (.inl rfl) rfl rfl (push_ok (y := Sl.nil) (off := 0) (l := subl (frmL [1, 2, 3, 4, 5, 6, 7, 8, 9, 10, 11, 12]) 0 1) (o31.rd (i := 2) rfl) (by simp [Sl.nil, Sl.nil, tw0, tw1, tw2, tw3, tw4, tw5, tw6, k1, k2, k3, k4, kB, k5, kw]; try omega) (by first | omega | (dsimp only; omega) | (simp [Sl.nil]; omega) | simp [Sl.nil]) (by omega) (by first | exact fun _ => rfl | assumption | exact frB_e (fun _ => rfl) | exact frB_e (frB_e (fun _ => rfl)) | exact frB_e (frB_e (frB_e (fun _ => rfl))) | exact frB_e (by assumption))) ?_
    rintro _ _ ⟨⟨A32, C33, l34, s35, o36⟩, ys37, ⟨A38, C39, l40, s41, o42⟩, p43, lr44, h45, h46, h47, h48, h49, rfl, rfl⟩
    dsimp only at h45 h47 h48 h49
    try simp only [Sl.nil, List.length_nil, Nat.zero_add] at h48
    have hm50 : l34.map (·.l) = (frP false 12 ([].drop 0) (subl (frmL [1, 2, 3, 4, 5, 6, 7, 8, 9, 10, 11, 12]) 0 1)).out := by rw [h45, List.map_map]; exact h46
    have hm50e : l34 = [] ↔ (frP false 12 ([].drop 0) (subl (frmL [1, 2, 3, 4, 5, 6, 7, 8, 9, 10, 11, 12]) 0 1)).out = [] := by rw [← hm50]; simp
    refine AtL.done ?_
    have hk1 : l40.length ≤ 1 := by have h9 := h48; simp [Sl.nil, Sl.nil, tw0, tw1, tw2, tw3, tw4, tw5, tw6, k1, k2, k3, k4, kB, k5, kw] at h9; omega
    refine At.seq ?_
    refine At.region ?_
    refine AtL.move (.inl rfl) rfl rfl ?_
    refine AtL.move (.inl rfl) rfl rfl ?_
    have hleo53 := Own.le_cap o11
    refine AtL.sliceO 1 3 C8 o11 (evBound_some rfl rfl) (evBound_some rfl rfl) rfl (by intro h; cases h) (by omega) (by omega) (by omega) (Nat.le_refl _) Tryd.underlying22 tf_sz5 (.inl rfl) rfl rfl ?_
    intro A51 C52 o53
    clear hleo53
    have hlo53 : (subl (frmL [1, 2, 3, 4, 5, 6, 7, 8, 9, 10, 11, 12]) 1 3).length = 3 - 1 := subl_len (by omega)
    refine AtL.pick (H' := s41 :: [(b13, .cells #[.int .i64 12, .bool (frB false 12 ([].drop 0) (subl (frmL [1, 2, 3, 4, 5, 6, 7, 8, 9, 10, 11, 12]) 0 1)), .slice A38 l40.length C39, .int .i64 (p43 : Int), .int .i8 lr44, .int .i64 (if false = true then 0 else (frF 12 (([].drop 0) ++ (subl (frmL [1, 2, 3, 4, 5, 6, 7, 8, 9, 10, 11, 12]) 0 1))).e)] 56 (0, 0))] :: s35 :: segsOf ys37 :: s26 :: s17 :: s10 :: s4 :: H) [2, 3, 0, 1, 4, 5, 6, 7] 8 rfl rfl ?_
    refine AtL.call tf_body23 (.inl rfl) rfl rfl (push_ok (y := ⟨A38, C39, l40, s41, o42⟩) (off := p43) (l := subl (frmL [1, 2, 3, 4, 5, 6, 7, 8, 9, 10, 11, 12]) 1 3) (o53.rd (i := 4) rfl) (by simp [Sl.nil, Sl.nil, tw0, tw1, tw2, tw3, tw4, tw5, tw6, k1, k2, k3, k4, kB, k5, kw]; try omega) (by first | omega | (dsimp only; omega) | (simp [Sl.nil]; omega) | simp [Sl.nil]) (by omega) (by first | exact fun _ => rfl | assumption | exact frB_e (fun _ => rfl) | exact frB_e (frB_e (fun _ => rfl)) | exact frB_e (frB_e (frB_e (fun _ => rfl))) | exact frB_e (by assumption))) ?_
    rintro _ _ ⟨⟨A54, C55, l56, s57, o58⟩, ys59, ⟨A60, C61, l62, s63, o64⟩, p65, lr66, h67, h68, h69, h70, h71, rfl, rfl⟩
    dsimp only at h67 h69 h70 h71
    try simp only [Sl.nil, List.length_nil, Nat.zero_add] at h70
    have hm72 : l56.map (·.l) = (frP (frB false 12 ([].drop 0) (subl (frmL [1, 2, 3, 4, 5, 6, 7, 8, 9, 10, 11, 12]) 0 1)) 12 (l40.drop p43) (subl (frmL [1, 2, 3, 4, 5, 6, 7, 8, 9, 10, 11, 12]) 1 3)).out := by rw [h67, List.map_map]; exact h68
    have hm72e : l56 = [] ↔ (frP (frB false 12 ([].drop 0) (subl (frmL [1, 2, 3, 4, 5, 6, 7, 8, 9, 10, 11, 12]) 0 1)) 12 (l40.drop p43) (subl (frmL [1, 2, 3, 4, 5, 6, 7, 8, 9, 10, 11, 12]) 1 3)).out = [] := by rw [← hm72]; simp
    refine AtL.done ?_
    have hk3 : l62.length ≤ 3 := by have h9 := h70; simp [Sl.nil, Sl.nil, tw0, tw1, tw2, tw3, tw4, tw5, tw6, k1, k2, k3, k4, kB, k5, kw] at h9; omega
    refine At.seq ?_
    refine At.region ?_
    refine AtL.move (.inl rfl) rfl rfl ?_
    refine AtL.move (.inl rfl) rfl rfl ?_
    have hleo75 := Own.le_cap o11
    refine AtL.sliceO 3 (frmL [1, 2, 3, 4, 5, 6, 7, 8, 9, 10, 11, 12]).length C8 o11 (evBound_some rfl rfl) rfl rfl (by intro h; cases h) (by omega) (by omega) (by omega) (Nat.le_refl _) Tryd.underlying22 tf_sz5 (.inl rfl) rfl rfl ?_
    intro A73 C74 o75
    clear hleo75
    have hlo75 : (subl (frmL [1, 2, 3, 4, 5, 6, 7, 8, 9, 10, 11, 12]) 3 (frmL [1, 2, 3, 4, 5, 6, 7, 8, 9, 10, 11, 12]).length).length = (frmL [1, 2, 3, 4, 5, 6, 7, 8, 9, 10, 11, 12]).length - 3 := subl_len (by omega)
    refine AtL.call tf_body22 (.inl rfl) rfl rfl (copy_ok (l := subl (frmL [1, 2, 3, 4, 5, 6, 7, 8, 9, 10, 11, 12]) 3 (frmL [1, 2, 3, 4, 5, 6, 7, 8, 9, 10, 11, 12]).length) (o75.rd (i := 8) rfl) (by omega)) ?_
    rintro _ _ ⟨A76, C77, s78, o79, rfl, rfl⟩
    refine AtL.buildSlice (cs := [.int .u8 0, .int .u8 13]) Tryd.underlying22 tf_zero5 tf_sz5 rfl rfl (.inl rfl) rfl rfl rfl ?_
    intro b80
    refine AtL.own1 tyB (l := ([0, 13] : List UInt8)) rfl rfl (by first | decide | simp) ?_
    intro s81 o82
    refine AtL.append (l := subl (frmL [1, 2, 3, 4, 5, 6, 7, 8, 9, 10, 11, 12]) 3 (frmL [1, 2, 3, 4, 5, 6, 7, 8, 9, 10, 11, 12]).length) (news := [0, 13]) 1 tf_el22 rfl o79 (o82.rd (i := 0) rfl) (by first | omega | (simp only [List.length_append, List.length_cons, List.length_nil, subl]; omega) | (simp [subl]; done) | (simp [subl]; omega)) (.inl rfl) rfl rfl rfl ?_
    intro A83 C84 s85 o86
    refine AtL.pick (H' := s63 :: [(b13, .cells #[.int .i64 12, .bool (frB (frB false 12 ([].drop 0) (subl (frmL [1, 2, 3, 4, 5, 6, 7, 8, 9, 10, 11, 12]) 0 1)) 12 (l40.drop p43) (subl (frmL [1, 2, 3, 4, 5, 6, 7, 8, 9, 10, 11, 12]) 1 3)), .slice A60 l62.length C61, .int .i64 (p65 : Int), .int .i8 lr66, .int .i64 (if frB false 12 ([].drop 0) (subl (frmL [1, 2, 3, 4, 5, 6, 7, 8, 9, 10, 11, 12]) 0 1) = true then (if false = true then 0 else (frF 12 (([].drop 0) ++ (subl (frmL [1, 2, 3, 4, 5, 6, 7, 8, 9, 10, 11, 12]) 0 1))).e) else (frF 12 ((l40.drop p43) ++ (subl (frmL [1, 2, 3, 4, 5, 6, 7, 8, 9, 10, 11, 12]) 1 3))).e)] 56 (0, 0))] :: s81 :: s85 :: s57 :: segsOf ys59 :: s35 :: segsOf ys37 :: s26 :: s17 :: s10 :: s4 :: H) [4, 5, 0, 1, 2, 3, 6, 7, 8, 9, 10, 11] 12 rfl rfl ?_
    refine AtL.call tf_body23 (.inl rfl) rfl rfl (push_ok (y := ⟨A60, C61, l62, s63, o64⟩) (off := p65) (l := (subl (frmL [1, 2, 3, 4, 5, 6, 7, 8, 9, 10, 11, 12]) 3 (frmL [1, 2, 3, 4, 5, 6, 7, 8, 9, 10, 11, 12]).length) ++ [0, 13]) (o86.rd (i := 1) rfl) (by simp [Sl.nil, Sl.nil, tw0, tw1, tw2, tw3, tw4, tw5, tw6, k1, k2, k3, k4, kB, k5, kw]; try omega) (by first | omega | (dsimp only; omega) | (simp [Sl.nil]; omega) | simp [Sl.nil]) (by omega) (by first | exact fun _ => rfl | assumption | exact frB_e (fun _ => rfl) | exact frB_e (frB_e (fun _ => rfl)) | exact frB_e (frB_e (frB_e (fun _ => rfl))) | exact frB_e (by assumption))) ?_
    rintro _ _ ⟨⟨A87, C88, l89, s90, o91⟩, ys92, ⟨A93, C94, l95, s96, o97⟩, p98, lr99, h100, h101, h102, h103, h104, rfl, rfl⟩
    dsimp only at h100 h102 h103 h104
    try simp only [Sl.nil, List.length_nil, Nat.zero_add] at h103
    have hm105 : l89.map (·.l) = (frP (frB (frB false 12 ([].drop 0) (subl (frmL [1, 2, 3, 4, 5, 6, 7, 8, 9, 10, 11, 12]) 0 1)) 12 (l40.drop p43) (subl (frmL [1, 2, 3, 4, 5, 6, 7, 8, 9, 10, 11, 12]) 1 3)) 12 (l62.drop p65) ((subl (frmL [1, 2, 3, 4, 5, 6, 7, 8, 9, 10, 11, 12]) 3 (frmL [1, 2, 3, 4, 5, 6, 7, 8, 9, 10, 11, 12]).length) ++ [0, 13])).out := by rw [h100, List.map_map]; exact h101
    have hm105e : l89 = [] ↔ (frP (frB (frB false 12 ([].drop 0) (subl (frmL [1, 2, 3, 4, 5, 6, 7, 8, 9, 10, 11, 12]) 0 1)) 12 (l40.drop p43) (subl (frmL [1, 2, 3, 4, 5, 6, 7, 8, 9, 10, 11, 12]) 1 3)) 12 (l62.drop p65) ((subl (frmL [1, 2, 3, 4, 5, 6, 7, 8, 9, 10, 11, 12]) 3 (frmL [1, 2, 3, 4, 5, 6, 7, 8, 9, 10, 11, 12]).length) ++ [0, 13])).out = [] := by rw [← hm105]; simp
    refine AtL.move (.inl rfl) rfl rfl ?_
    refine AtL.extract (.inl rfl) rfl rfl rfl ?_
    refine AtL.extract (.inl rfl) rfl rfl rfl ?_
    refine AtL.assign (.inl rfl) rfl rfl ?_
    refine AtL.assign (.inl rfl) rfl rfl ?_
    refine AtL.done ?_
    have hk16 : l95.length ≤ 16 := by have h9 := h103; simp [Sl.nil, Sl.nil, tw0, tw1, tw2, tw3, tw4, tw5, tw6, k1, k2, k3, k4, kB, k5, kw] at h9; omega
    refine At.seq ?_
    refine At.region ?_
    refine AtL.move (.inl rfl) rfl rfl ?_
    refine AtL.pick (H' := s96 :: [(b13, .cells #[.int .i64 12, .bool (frB (frB (frB false 12 ([].drop 0) (subl (frmL [1, 2, 3, 4, 5, 6, 7, 8, 9, 10, 11, 12]) 0 1)) 12 (l40.drop p43) (subl (frmL [1, 2, 3, 4, 5, 6, 7, 8, 9, 10, 11, 12]) 1 3)) 12 (l62.drop p65) ((subl (frmL [1, 2, 3, 4, 5, 6, 7, 8, 9, 10, 11, 12]) 3 (frmL [1, 2, 3, 4, 5, 6, 7, 8, 9, 10, 11, 12]).length) ++ [0, 13])), .slice A93 l95.length C94, .int .i64 (p98 : Int), .int .i8 lr99, .int .i64 (if frB (frB false 12 ([].drop 0) (subl (frmL [1, 2, 3, 4, 5, 6, 7, 8, 9, 10, 11, 12]) 0 1)) 12 (l40.drop p43) (subl (frmL [1, 2, 3, 4, 5, 6, 7, 8, 9, 10, 11, 12]) 1 3) = true then (if frB false 12 ([].drop 0) (subl (frmL [1, 2, 3, 4, 5, 6, 7, 8, 9, 10, 11, 12]) 0 1) = true then (if false = true then 0 else (frF 12 (([].drop 0) ++ (subl (frmL [1, 2, 3, 4, 5, 6, 7, 8, 9, 10, 11, 12]) 0 1))).e) else (frF 12 ((l40.drop p43) ++ (subl (frmL [1, 2, 3, 4, 5, 6, 7, 8, 9, 10, 11, 12]) 1 3))).e) else (frF 12 ((l62.drop p65) ++ ((subl (frmL [1, 2, 3, 4, 5, 6, 7, 8, 9, 10, 11, 12]) 3 (frmL [1, 2, 3, 4, 5, 6, 7, 8, 9, 10, 11, 12]).length) ++ [0, 13]))).e)] 56 (0, 0))] :: s90 :: segsOf ys92 :: s81 :: s85 :: s57 :: segsOf ys59 :: s35 :: segsOf ys37 :: s26 :: s17 :: s10 :: s4 :: H) [2, 3, 0, 1, 4, 5, 6, 7, 8, 9, 10, 11, 12, 13] 14 rfl rfl ?_
    refine AtL.call tf_body23 (.inl rfl) rfl rfl (push_ok (y := ⟨A93, C94, l95, s96, o97⟩) (off := p98) (l := []) Rd.nil_ (by simp [Sl.nil, Sl.nil, tw0, tw1, tw2, tw3, tw4, tw5, tw6, k1, k2, k3, k4, kB, k5, kw]; try omega) (by first | omega | (dsimp only; omega) | (simp [Sl.nil]; omega) | simp [Sl.nil]) (by omega) (by first | exact fun _ => rfl | assumption | exact frB_e (fun _ => rfl) | exact frB_e (frB_e (fun _ => rfl)) | exact frB_e (frB_e (frB_e (fun _ => rfl))) | exact frB_e (by assumption))) ?_
    rintro _ _ ⟨⟨A106, C107, l108, s109, o110⟩, ys111, ⟨A112, C113, l114, s115, o116⟩, p117, lr118, h119, h120, h121, h122, h123, rfl, rfl⟩
    dsimp only at h119 h121 h122 h123
    try simp only [Sl.nil, List.length_nil, Nat.zero_add] at h122
    have hm124 : l108.map (·.l) = (frP (frB (frB (frB false 12 ([].drop 0) (subl (frmL [1, 2, 3, 4, 5, 6, 7, 8, 9, 10, 11, 12]) 0 1)) 12 (l40.drop p43) (subl (frmL [1, 2, 3, 4, 5, 6, 7, 8, 9, 10, 11, 12]) 1 3)) 12 (l62.drop p65) ((subl (frmL [1, 2, 3, 4, 5, 6, 7, 8, 9, 10, 11, 12]) 3 (frmL [1, 2, 3, 4, 5, 6, 7, 8, 9, 10, 11, 12]).length) ++ [0, 13])) 12 (l95.drop p98) []).out := by rw [h119, List.map_map]; exact h120
    have hm124e : l108 = [] ↔ (frP (frB (frB (frB false 12 ([].drop 0) (subl (frmL [1, 2, 3, 4, 5, 6, 7, 8, 9, 10, 11, 12]) 0 1)) 12 (l40.drop p43) (subl (frmL [1, 2, 3, 4, 5, 6, 7, 8, 9, 10, 11, 12]) 1 3)) 12 (l62.drop p65) ((subl (frmL [1, 2, 3, 4, 5, 6, 7, 8, 9, 10, 11, 12]) 3 (frmL [1, 2, 3, 4, 5, 6, 7, 8, 9, 10, 11, 12]).length) ++ [0, 13])) 12 (l95.drop p98) []).out = [] := by rw [← hm124]; simp
    refine AtL.move (.inl rfl) rfl rfl ?_
    refine AtL.extract (.inl rfl) rfl rfl rfl ?_
    refine AtL.extract (.inl rfl) rfl rfl rfl ?_
    refine AtL.assign (.inl rfl) rfl rfl ?_
    refine AtL.assign (.inl rfl) rfl rfl ?_
    refine AtL.done ?_
    refine At.seq ?_
    refine At.region ?_
    refine AtL.call tf_body9 (.inl rfl) rfl rfl awake_ok ?_
    rintro _ _ ⟨rfl, rfl⟩
    refine AtL.move (.inl rfl) rfl rfl ?_
    refine AtL.move (.inr ⟨_, _, _, rfl, rfl, rfl, rfl⟩) rfl rfl ?_
    refine AtL.eqi (.inr ⟨_, _, _, rfl, rfl, rfl, rfl⟩) rfl rfl rfl ?_
    refine AtL.pickT (.inl rfl) rfl rfl rfl ?_
    refine AtL.move (.inl rfl) rfl rfl ?_
    refine AtL.split (t := 77) rfl ?_ ?_
    · intro hs77
      have hs77 : (frmE (subl [1, 2, 3, 4, 5, 6, 7, 8, 9, 10, 11, 12] 0 11) : Int) = 4 := of_decide_eq_true hs77
      refine AtL.move (.inr ⟨_, _, _, rfl, rfl, rfl, rfl⟩) rfl rfl ?_
      refine AtL.eqi (.inr ⟨_, _, _, rfl, rfl, rfl, rfl⟩) rfl rfl rfl ?_
      refine AtL.pickT (.inl rfl) rfl rfl rfl ?_
      refine AtL.move (.inl rfl) rfl rfl ?_
      refine AtL.move (.inr ⟨_, _, _, rfl, rfl, rfl, rfl⟩) rfl rfl ?_
      refine AtL.eqi (.inr ⟨_, _, _, rfl, rfl, rfl, rfl⟩) rfl rfl rfl ?_
      refine AtL.pickT (.inl rfl) rfl rfl rfl ?_
      refine AtL.move (.inl rfl) rfl rfl ?_
      refine AtL.move (.inr ⟨_, _, _, rfl, rfl, rfl, rfl⟩) rfl rfl ?_
      refine AtL.call tf_body29 (.inr ⟨_, _, _, rfl, rfl, rfl, rfl⟩) rfl rfl twelve_ok ?_
      rintro _ _ ⟨⟨A125, C126, l127, s128, o129⟩, hx130, rfl, rfl⟩
      obtain rfl : [1, 2, 3, 4, 5, 6, 7, 8, 9, 10, 11, 12] = l127 := hx130.symm
      refine AtL.buildSlice (cs := [.slice A125 [1, 2, 3, 4, 5, 6, 7, 8, 9, 10, 11, 12].length C126]) Tryd.underlying31 tf_zero22 tf_sz22 rfl rfl (.inr ⟨_, _, _, rfl, rfl, rfl, rfl⟩) rfl rfl rfl ?_
      intro b131
      refine AtL.own1 tyL (l := ([(⟨A125, C126, [1, 2, 3, 4, 5, 6, 7, 8, 9, 10, 11, 12]⟩ : Bs)] : List Bs)) rfl rfl (by first | decide | simp) ?_
      intro s132 o133
      refine AtL.call tf_body18 (.inr ⟨_, _, _, rfl, rfl, rfl, rfl⟩) rfl rfl (slists_ok (a := l89) (b := [(⟨A125, C126, [1, 2, 3, 4, 5, 6, 7, 8, 9, 10, 11, 12]⟩ : Bs)]) (o91.rd (i := 6) rfl) (fun x hx => Rd.pick [7] 18 rfl rfl ((Sl.rdV (H := segsOf ys92 :: H) h100 (i := 0) rfl) x hx)) (o133.rd (i := 0) rfl) (fun x hx => Rd.pick [1] 18 rfl rfl ((el_cons (P := fun (x : Bs) => Rd tyB w0 base (s128 :: H) x.A x.C x.l) (o129.rd (H := s128 :: H) (i := 0) rfl) el_nil) x hx))) ?_
      rintro _ _ ⟨rfl, rfl⟩
      refine AtL.pickT (.inl rfl) rfl rfl rfl ?_
      refine AtL.move (.inl rfl) rfl rfl ?_
      refine AtL.split (t := 91) rfl ?_ ?_
      · intro hs91
        have hs91 : l89.map (·.l) = ([(⟨A125, C126, [1, 2, 3, 4, 5, 6, 7, 8, 9, 10, 11, 12]⟩ : Bs)]).map (·.l) := of_decide_eq_true hs91
        refine AtL.move (.inr ⟨_, _, _, rfl, rfl, rfl, rfl⟩) rfl rfl ?_
        refine AtL.eqi (.inr ⟨_, _, _, rfl, rfl, rfl, rfl⟩) rfl rfl rfl ?_
        refine AtL.pickT (.inl rfl) rfl rfl rfl ?_
        refine AtL.move (.inl rfl) rfl rfl ?_
        refine AtL.split (t := 95) rfl ?_ ?_
        · intro hs95
          have hs95 : ((frP (frB (frB false 12 ([].drop 0) (subl (frmL [1, 2, 3, 4, 5, 6, 7, 8, 9, 10, 11, 12]) 0 1)) 12 (l40.drop p43) (subl (frmL [1, 2, 3, 4, 5, 6, 7, 8, 9, 10, 11, 12]) 1 3)) 12 (l62.drop p65) ((subl (frmL [1, 2, 3, 4, 5, 6, 7, 8, 9, 10, 11, 12]) 3 (frmL [1, 2, 3, 4, 5, 6, 7, 8, 9, 10, 11, 12]).length) ++ [0, 13])).e) = 3 := of_decide_eq_true hs95
          refine AtL.move (.inr ⟨_, _, _, rfl, rfl, rfl, rfl⟩) rfl rfl ?_
          refine AtL.eqi (.inr ⟨_, _, _, rfl, rfl, rfl, rfl⟩) rfl rfl rfl ?_
          refine AtL.pickT (.inl rfl) rfl rfl rfl ?_
          refine AtL.move (.inl rfl) rfl rfl ?_
          refine AtL.split (t := 99) rfl ?_ ?_
          · intro hs99
            have hs99 : ((frP (frB (frB (frB false 12 ([].drop 0) (subl (frmL [1, 2, 3, 4, 5, 6, 7, 8, 9, 10, 11, 12]) 0 1)) 12 (l40.drop p43) (subl (frmL [1, 2, 3, 4, 5, 6, 7, 8, 9, 10, 11, 12]) 1 3)) 12 (l62.drop p65) ((subl (frmL [1, 2, 3, 4, 5, 6, 7, 8, 9, 10, 11, 12]) 3 (frmL [1, 2, 3, 4, 5, 6, 7, 8, 9, 10, 11, 12]).length) ++ [0, 13])) 12 (l95.drop p98) []).e) = 9 := of_decide_eq_true hs99
            refine AtL.move (.inr ⟨_, _, _, rfl, rfl, rfl, rfl⟩) rfl rfl ?_
            refine AtL.pick (H' := [(b13, .cells #[.int .i64 12, .bool (frB (frB (frB (frB false 12 ([].drop 0) (subl (frmL [1, 2, 3, 4, 5, 6, 7, 8, 9, 10, 11, 12]) 0 1)) 12 (l40.drop p43) (subl (frmL [1, 2, 3, 4, 5, 6, 7, 8, 9, 10, 11, 12]) 1 3)) 12 (l62.drop p65) ((subl (frmL [1, 2, 3, 4, 5, 6, 7, 8, 9, 10, 11, 12]) 3 (frmL [1, 2, 3, 4, 5, 6, 7, 8, 9, 10, 11, 12]).length) ++ [0, 13])) 12 (l95.drop p98) []), .slice A112 l114.length C113, .int .i64 (p117 : Int), .int .i8 lr118, .int .i64 (if frB (frB (frB false 12 ([].drop 0) (subl (frmL [1, 2, 3, 4, 5, 6, 7, 8, 9, 10, 11, 12]) 0 1)) 12 (l40.drop p43) (subl (frmL [1, 2, 3, 4, 5, 6, 7, 8, 9, 10, 11, 12]) 1 3)) 12 (l62.drop p65) ((subl (frmL [1, 2, 3, 4, 5, 6, 7, 8, 9, 10, 11, 12]) 3 (frmL [1, 2, 3, 4, 5, 6, 7, 8, 9, 10, 11, 12]).length) ++ [0, 13]) = true then (if frB (frB false 12 ([].drop 0) (subl (frmL [1, 2, 3, 4, 5, 6, 7, 8, 9, 10, 11, 12]) 0 1)) 12 (l40.drop p43) (subl (frmL [1, 2, 3, 4, 5, 6, 7, 8, 9, 10, 11, 12]) 1 3) = true then (if frB false 12 ([].drop 0) (subl (frmL [1, 2, 3, 4, 5, 6, 7, 8, 9, 10, 11, 12]) 0 1) = true then (if false = true then 0 else (frF 12 (([].drop 0) ++ (subl (frmL [1, 2, 3, 4, 5, 6, 7, 8, 9, 10, 11, 12]) 0 1))).e) else (frF 12 ((l40.drop p43) ++ (subl (frmL [1, 2, 3, 4, 5, 6, 7, 8, 9, 10, 11, 12]) 1 3))).e) else (frF 12 ((l62.drop p65) ++ ((subl (frmL [1, 2, 3, 4, 5, 6, 7, 8, 9, 10, 11, 12]) 3 (frmL [1, 2, 3, 4, 5, 6, 7, 8, 9, 10, 11, 12]).length) ++ [0, 13]))).e) else (frF 12 ((l95.drop p98) ++ [])).e)] 56 (0, 0))] :: s132 :: s128 :: s109 :: segsOf ys111 :: s115 :: s90 :: segsOf ys92 :: s81 :: s85 :: s57 :: segsOf ys59 :: s35 :: segsOf ys37 :: s26 :: s17 :: s10 :: s4 :: H) [5, 0, 1, 2, 3, 4, 6, 7, 8, 9, 10, 11, 12, 13, 14, 15, 16, 17] 18 rfl rfl ?_
            refine AtL.call tf_body28 (.inr ⟨_, _, _, rfl, rfl, rfl, rfl⟩) rfl rfl broken_ok ?_
            rintro _ _ ⟨rfl, rfl⟩
            refine AtL.pickT (.inl rfl) rfl rfl rfl ?_
            refine AtL.move (.inl rfl) rfl rfl ?_
            refine AtL.split (t := 103) rfl ?_ ?_
            · intro hs103
              have hs103 : (frB (frB (frB (frB false 12 ([].drop 0) (subl (frmL [1, 2, 3, 4, 5, 6, 7, 8, 9, 10, 11, 12]) 0 1)) 12 (l40.drop p43) (subl (frmL [1, 2, 3, 4, 5, 6, 7, 8, 9, 10, 11, 12]) 1 3)) 12 (l62.drop p65) ((subl (frmL [1, 2, 3, 4, 5, 6, 7, 8, 9, 10, 11, 12]) 3 (frmL [1, 2, 3, 4, 5, 6, 7, 8, 9, 10, 11, 12]).length) ++ [0, 13])) 12 (l95.drop p98) []) = true := hs103
              refine AtL.move (.inr ⟨_, _, _, rfl, rfl, rfl, rfl⟩) rfl rfl ?_
              refine AtL.pick (H' := s115 :: [(b13, .cells #[.int .i64 12, .bool (frB (frB (frB (frB false 12 ([].drop 0) (subl (frmL [1, 2, 3, 4, 5, 6, 7, 8, 9, 10, 11, 12]) 0 1)) 12 (l40.drop p43) (subl (frmL [1, 2, 3, 4, 5, 6, 7, 8, 9, 10, 11, 12]) 1 3)) 12 (l62.drop p65) ((subl (frmL [1, 2, 3, 4, 5, 6, 7, 8, 9, 10, 11, 12]) 3 (frmL [1, 2, 3, 4, 5, 6, 7, 8, 9, 10, 11, 12]).length) ++ [0, 13])) 12 (l95.drop p98) []), .slice A112 l114.length C113, .int .i64 (p117 : Int), .int .i8 lr118, .int .i64 (if frB (frB (frB false 12 ([].drop 0) (subl (frmL [1, 2, 3, 4, 5, 6, 7, 8, 9, 10, 11, 12]) 0 1)) 12 (l40.drop p43) (subl (frmL [1, 2, 3, 4, 5, 6, 7, 8, 9, 10, 11, 12]) 1 3)) 12 (l62.drop p65) ((subl (frmL [1, 2, 3, 4, 5, 6, 7, 8, 9, 10, 11, 12]) 3 (frmL [1, 2, 3, 4, 5, 6, 7, 8, 9, 10, 11, 12]).length) ++ [0, 13]) = true then (if frB (frB false 12 ([].drop 0) (subl (frmL [1, 2, 3, 4, 5, 6, 7, 8, 9, 10, 11, 12]) 0 1)) 12 (l40.drop p43) (subl (frmL [1, 2, 3, 4, 5, 6, 7, 8, 9, 10, 11, 12]) 1 3) = true then (if frB false 12 ([].drop 0) (subl (frmL [1, 2, 3, 4, 5, 6, 7, 8, 9, 10, 11, 12]) 0 1) = true then (if false = true then 0 else (frF 12 (([].drop 0) ++ (subl (frmL [1, 2, 3, 4, 5, 6, 7, 8, 9, 10, 11, 12]) 0 1))).e) else (frF 12 ((l40.drop p43) ++ (subl (frmL [1, 2, 3, 4, 5, 6, 7, 8, 9, 10, 11, 12]) 1 3))).e) else (frF 12 ((l62.drop p65) ++ ((subl (frmL [1, 2, 3, 4, 5, 6, 7, 8, 9, 10, 11, 12]) 3 (frmL [1, 2, 3, 4, 5, 6, 7, 8, 9, 10, 11, 12]).length) ++ [0, 13]))).e) else (frF 12 ((l95.drop p98) ++ [])).e)] 56 (0, 0))] :: s132 :: s128 :: s109 :: segsOf ys111 :: s90 :: segsOf ys92 :: s81 :: s85 :: s57 :: segsOf ys59 :: s35 :: segsOf ys37 :: s26 :: s17 :: s10 :: s4 :: H) [5, 0, 1, 2, 3, 4, 6, 7, 8, 9, 10, 11, 12, 13, 14, 15, 16, 17] 18 rfl rfl ?_
              refine AtL.call tf_body25 (.inr ⟨_, _, _, rfl, rfl, rfl, rfl⟩) rfl rfl (left_ok (y := ⟨A112, C113, l114, s115, o116⟩) (off := p117) (by first | omega | (dsimp only; omega)) (by first | omega | (dsimp only; omega)) (by first | omega | assumption)) ?_
              rintro _ _ ⟨rfl, rfl⟩
              refine AtL.eqi (.inr ⟨_, _, _, rfl, rfl, rfl, rfl⟩) rfl rfl rfl ?_
              refine AtL.pickT (.inl rfl) rfl rfl rfl ?_
              refine AtL.assign (.inl rfl) rfl rfl ?_
              refine AtL.done ?_
              refine At.pick (H' := H) [] 18 rfl rfl ?_
              exact At.ret Tryd.func7 rfl rfl (⟨congrArg Value.bool (show (decide (((l114.drop p117).length : Int) = 0)) = true by simp [Sl.nil, tw0, tw1, tw2, tw3, tw4, tw5, tw6, k1, k2, k3, k4, kB, k5, kw, h49, hm50, hm50e, h71, hm72, hm72e, h104, hm105, hm105e, h123, hm124, hm124e]), rfl⟩)
            · intro hs103
              have hs103 : (frB (frB (frB (frB false 12 ([].drop 0) (subl (frmL [1, 2, 3, 4, 5, 6, 7, 8, 9, 10, 11, 12]) 0 1)) 12 (l40.drop p43) (subl (frmL [1, 2, 3, 4, 5, 6, 7, 8, 9, 10, 11, 12]) 1 3)) 12 (l62.drop p65) ((subl (frmL [1, 2, 3, 4, 5, 6, 7, 8, 9, 10, 11, 12]) 3 (frmL [1, 2, 3, 4, 5, 6, 7, 8, 9, 10, 11, 12]).length) ++ [0, 13])) 12 (l95.drop p98) []) = false := hs103
              exfalso; revert hs103; simp [Sl.nil, tw0, tw1, tw2, tw3, tw4, tw5, tw6, k1, k2, k3, k4, kB, k5, kw, h49, hm50, hm50e, h71, hm72, hm72e, h104, hm105, hm105e, h123, hm124, hm124e]
          · intro hs99
            have hs99 : ¬ (((frP (frB (frB (frB false 12 ([].drop 0) (subl (frmL [1, 2, 3, 4, 5, 6, 7, 8, 9, 10, 11, 12]) 0 1)) 12 (l40.drop p43) (subl (frmL [1, 2, 3, 4, 5, 6, 7, 8, 9, 10, 11, 12]) 1 3)) 12 (l62.drop p65) ((subl (frmL [1, 2, 3, 4, 5, 6, 7, 8, 9, 10, 11, 12]) 3 (frmL [1, 2, 3, 4, 5, 6, 7, 8, 9, 10, 11, 12]).length) ++ [0, 13])) 12 (l95.drop p98) []).e) = 9) := of_decide_eq_false hs99
            exfalso; revert hs99; simp [Sl.nil, tw0, tw1, tw2, tw3, tw4, tw5, tw6, k1, k2, k3, k4, kB, k5, kw, h49, hm50, hm50e, h71, hm72, hm72e, h104, hm105, hm105e, h123, hm124, hm124e]
        · intro hs95
          have hs95 : ¬ (((frP (frB (frB false 12 ([].drop 0) (subl (frmL [1, 2, 3, 4, 5, 6, 7, 8, 9, 10, 11, 12]) 0 1)) 12 (l40.drop p43) (subl (frmL [1, 2, 3, 4, 5, 6, 7, 8, 9, 10, 11, 12]) 1 3)) 12 (l62.drop p65) ((subl (frmL [1, 2, 3, 4, 5, 6, 7, 8, 9, 10, 11, 12]) 3 (frmL [1, 2, 3, 4, 5, 6, 7, 8, 9, 10, 11, 12]).length) ++ [0, 13])).e) = 3) := of_decide_eq_false hs95
          exfalso; revert hs95; simp [Sl.nil, tw0, tw1, tw2, tw3, tw4, tw5, tw6, k1, k2, k3, k4, kB, k5, kw, h49, hm50, hm50e, h71, hm72, hm72e, h104, hm105, hm105e, h123, hm124, hm124e]
      · intro hs91
        have hs91 : ¬ (l89.map (·.l) = ([(⟨A125, C126, [1, 2, 3, 4, 5, 6, 7, 8, 9, 10, 11, 12]⟩ : Bs)]).map (·.l)) := of_decide_eq_false hs91
        exfalso; revert hs91; simp [Sl.nil, tw0, tw1, tw2, tw3, tw4, tw5, tw6, k1, k2, k3, k4, kB, k5, kw, h49, hm50, hm50e, h71, hm72, hm72e, h104, hm105, hm105e, h123, hm124, hm124e]
    · intro hs77
      have hs77 : ¬ ((frmE (subl [1, 2, 3, 4, 5, 6, 7, 8, 9, 10, 11, 12] 0 11) : Int) = 4) := of_decide_eq_false hs77
      exfalso; revert hs77; simp [Sl.nil, tw0, tw1, tw2, tw3, tw4, tw5, tw6, k1, k2, k3, k4, kB, k5, kw, h49, hm50, hm50e, h71, hm72, hm72e, h104, hm105, hm105e, h123, hm124, hm124e]

end Go.Proofs.YtllfgcekebafhaaDoor
