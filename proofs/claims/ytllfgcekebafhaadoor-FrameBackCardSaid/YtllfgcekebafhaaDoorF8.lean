/- FrameCuts, FrameBack, walked. -/
import Derived.Test.YtllfgcekebafhaaDoorF7
namespace Go.Proofs.YtllfgcekebafhaaDoor
set_option linter.unusedVariables false
set_option linter.unusedSimpArgs false
set_option maxRecDepth 100000

set_option maxHeartbeats 2000000 in
theorem pushed_ok {w0 : World} {base : Nat} {H : List Seg} (m : Int) (hm : ¬ (m < 12 ∨ 65535 < m)) {A : Option Addr} {C : Nat} {l : List Bs} (h : Rd tyL w0 base H A C l) (he : ∀ x ∈ l, Rd tyB w0 base H x.A x.C x.l) (hl : (l.map (·.l)).flatten.length ≤ 1000000) (hn : l.length ≤ 1000000) :
    SCalls Tryd.prog 16 [.int .i64 m, .slice A l.length C] w0 base (H) (fun v H' => ∃ (x : Sl tyL 22) (ys : List (Sl tyB 5)), x.l = ys.map Sl.v ∧ ys.map (·.l) = (frF m (l.map (·.l)).flatten).out ∧ v = .tuple #[.slice x.A x.l.length x.C, int (frF m (l.map (·.l)).flatten).e, .bool true] ∧ H' = x.s :: segsOf ys :: H) := by
  refine SCalls.of_walk (n := 54) Tryd.func16 rfl rfl rfl fun cs => ?_
  refine At.seq ?_
  refine At.region ?_
  refine AtL.assign (.inl rfl) rfl rfl ?_
  refine AtL.assign (.inl rfl) rfl rfl ?_
  refine AtL.assign (.inl rfl) rfl rfl ?_
  refine AtL.done ?_
  refine At.seq ?_
  refine At.region ?_
  refine AtL.move (.inl rfl) rfl rfl ?_
  refine AtL.call tf_body20 (.inl rfl) rfl rfl (new_ok m hm) ?_
  rintro _ _ ⟨b1, rfl, rfl⟩
  refine AtL.move (.inl rfl) rfl rfl ?_
  refine AtL.extract (.inl rfl) rfl rfl rfl ?_
  refine AtL.extract (.inl rfl) rfl rfl rfl ?_
  refine AtL.assign (.inl rfl) rfl rfl ?_
  refine AtL.assign (.inl rfl) rfl rfl ?_
  refine AtL.done ?_
  refine At.seq ?_
  refine At.seq ?_
  refine At.region ?_
  refine AtL.move (.inl rfl) rfl rfl ?_
  refine AtL.nei (.inl rfl) rfl rfl rfl ?_
  refine AtL.move (.inl rfl) rfl rfl ?_
  refine AtL.move (.inr ⟨_, _, _, rfl, rfl, rfl, rfl⟩) rfl rfl ?_
  refine AtL.eqPtrNil Tryd.underlying39 (.inr ⟨_, _, _, rfl, rfl, rfl, rfl⟩) rfl rfl rfl ?_
  refine AtL.pickF (.inl rfl) rfl rfl rfl ?_
  refine AtL.done ?_
  refine At.condF rfl ?_
  refine At.skip ?_
  refine At.seq ?_
  refine At.region ?_
  refine AtL.assign (.inl rfl) rfl rfl ?_
  refine AtL.done ?_
  refine At.seq ?_
  refine At.seq ?_
  refine At.region ?_
  refine AtL.assign (.inl rfl) rfl rfl ?_
  refine AtL.done ?_
  refine At.block ?_
  refine At.nil ?_
  refine At.nil ?_
  refine At.nil ?_
  refine At.loop6 (fun (i : Nat) (x : Sl tyL 22) (ys : List (Sl tyB 5)) (y : Sl tyB 5) (off : Nat) (lr : Int) => [(0, .int .i64 m), (1, .slice A l.length C), (7, .pointer (some ⟨b1, 0, none⟩)), (9, .slice x.A x.l.length x.C), (10, .int .i64 (i : Int))]) (fun (i : Nat) (x : Sl tyL 22) (ys : List (Sl tyB 5)) (y : Sl tyB 5) (off : Nat) (lr : Int) => x.s :: segsOf ys :: y.s :: [(b1, .cells #[.int .i64 m, .bool false, .slice y.A y.l.length y.C, .int .i64 (off : Int), .int .i8 lr, .int .i64 0] 56 (0, 0))] :: H) (fun (i : Nat) (x : Sl tyL 22) (ys : List (Sl tyB 5)) (y : Sl tyB 5) (off : Nat) (lr : Int) => frF m ((l.map (·.l)).take i).flatten = ⟨ys.map (·.l), 0, y.l.drop off⟩ ∧ x.l = ys.map Sl.v ∧ i ≤ l.length ∧ off ≤ y.l.length ∧ y.l.length ≤ ((l.map (·.l)).take i).flatten.length) (fun (i : Nat) (x : Sl tyL 22) (ys : List (Sl tyB 5)) (y : Sl tyB 5) (off : Nat) (lr : Int) => l.length - i) 0 Sl.nil [] Sl.nil 0 0 (⟨fr_nil m, rfl, Nat.zero_le _, Nat.zero_le _, Nat.zero_le _⟩) ⟨rfl, rfl, rfl, rfl, rfl, trivial⟩ rfl ?_
  rintro i x ys y off lr ⟨hI, hxy, hi, hoff, hyl⟩ ihL1
  have hT1 := flat_take_le (l.map (·.l)) i
  have hT2 := flat_getD_le (l.map (·.l)) i
  rw [map_getD] at hT2
  have hk0 := frF_keep (m := m) (by omega) ((l.map (·.l)).take i).flatten
  rw [hI] at hk0
  dsimp only at hk0
  have hxl : x.l.length = ys.length := by rw [hxy, List.length_map]
  have hyl2 : (ys.map (·.l)).length = ys.length := List.length_map ..
  refine At.seq ?_
  refine At.seq ?_
  refine At.region ?_
  refine AtL.move (.inl rfl) rfl rfl ?_
  refine AtL.move (.inl rfl) rfl rfl ?_
  refine AtL.lenL Tryd.underlying31 (.inl rfl) rfl rfl ?_
  refine AtL.lss (.inl rfl) rfl rfl rfl ?_
  refine AtL.done ?_
  refine At.cond rfl ?_ ?_
  · intro hc2
    have hc2 : (i : Int) < (l.length : Int) := of_decide_eq_true hc2
    have hT3 := flat_take_succ (l.map (·.l)) i (by simp; omega)
    rw [map_getD] at hT3
    have hst := fr_step m (l.map (·.l)) i (by simp; omega) (by rw [hI])
    rw [hI, map_getD] at hst
    dsimp only at hst
    have hP : frP false m (y.l.drop off) (l.getD i ⟨none, 0, []⟩).l = frF m (y.l.drop off ++ (l.getD i ⟨none, 0, []⟩).l) := by rw [frP, if_neg (by simp)]
    have hk1 := frF_keep (m := m) (by omega) (y.l.drop off ++ (l.getD i ⟨none, 0, []⟩).l)
    have hlc : (y.l.drop off ++ (l.getD i ⟨none, 0, []⟩).l).length = y.l.length - off + (l.getD i ⟨none, 0, []⟩).l.length := by rw [List.length_append, List.length_drop]
    have hq : (frF m (y.l.drop off ++ (l.getD i ⟨none, 0, []⟩).l)) = frF m (y.l.drop off ++ (l.getD i ⟨none, 0, []⟩).l) := rfl
    refine At.skip ?_
    refine At.seq ?_
    refine At.block ?_
    refine At.seq ?_
    refine At.region ?_
    refine AtL.move (.inl rfl) rfl rfl ?_
    refine AtL.move (.inl rfl) rfl rfl ?_
    refine AtL.move (.inl rfl) rfl rfl ?_
    refine AtL.indexL i (Rd.skip 4 h) Tryd.underlying31 tf_sz22 (.inl rfl) rfl rfl rfl rfl (by omega) ?_
    refine AtL.load (v := .slice ((l.getD i (⟨none, 0, []⟩ : Bs)).A) ((l.getD i (⟨none, 0, []⟩ : Bs)).l).length ((l.getD i (⟨none, 0, []⟩ : Bs)).C)) tf_flat22 (.inl rfl) rfl rfl (Rd.cell0 (Rd.skip 4 h) (getD_some (⟨none, 0, []⟩ : Bs) (by omega)) rfl) ?_
    refine AtL.pick (H' := y.s :: [(b1, .cells #[.int .i64 m, .bool false, .slice y.A y.l.length y.C, .int .i64 (off : Int), .int .i8 lr, .int .i64 0] 56 (0, 0))] :: x.s :: segsOf ys :: H) [2, 3, 0, 1] 4 rfl rfl ?_
    refine AtL.call tf_body23 (.inl rfl) rfl rfl (push_ok (y := y) (off := off) (l := (l.getD i (⟨none, 0, []⟩ : Bs)).l) (Rd.skip 2 (he _ (getD_mem (l := l) (i := i) (d := (⟨none, 0, []⟩ : Bs)) (by omega)))) (by first | omega | (dsimp only; omega) | (simp [Sl.nil]; omega) | simp [Sl.nil]) (by first | omega | (dsimp only; omega) | (simp [Sl.nil]; omega) | simp [Sl.nil]) (by omega) (by first | exact fun _ => rfl | assumption | exact frB_e (fun _ => rfl) | exact frB_e (frB_e (fun _ => rfl)) | exact frB_e (frB_e (frB_e (fun _ => rfl))) | exact frB_e (by assumption))) ?_
    rintro _ _ ⟨⟨A2, C3, l4, s5, o6⟩, ys7, ⟨A8, C9, l10, s11, o12⟩, p13, lr14, h15, h16, h17, h18, h19, rfl, rfl⟩
    dsimp only at h15 h17 h18 h19
    try simp only [Sl.nil, List.length_nil, Nat.zero_add] at h18
    have hm20 : l4.map (·.l) = (frP false m (y.l.drop off) ((l.getD i (⟨none, 0, []⟩ : Bs)).l)).out := by rw [h15, List.map_map]; exact h16
    have hm20e : l4 = [] ↔ (frP false m (y.l.drop off) ((l.getD i (⟨none, 0, []⟩ : Bs)).l)).out = [] := by rw [← hm20]; simp
    refine AtL.move (.inl rfl) rfl rfl ?_
    refine AtL.extract (.inl rfl) rfl rfl rfl ?_
    refine AtL.extract (.inl rfl) rfl rfl rfl ?_
    refine AtL.assign (.inl rfl) rfl rfl ?_
    refine AtL.assign (.inl rfl) rfl rfl ?_
    refine AtL.done ?_
    have hkeep : ((l10.drop p13).length : Int) ≤ m + 1 := by rw [h19, hP]; exact hk1.1
    have hx2 : l4.length = (frF m (y.l.drop off ++ (l.getD i ⟨none, 0, []⟩).l)).out.length := by rw [← hP, ← hm20, List.length_map]
    refine At.seq ?_
    refine At.region ?_
    refine AtL.move (.inl rfl) rfl rfl ?_
    refine AtL.move (.inl rfl) rfl rfl ?_
    refine AtL.append (l := x.l) (news := l4) 4 tf_el31 rfl x.own (o6.rd (i := 0) rfl) (by first | omega | (simp only [List.length_append, List.length_cons, List.length_nil]; omega) | (simp; done) | (simp; omega)) (.inl rfl) rfl rfl rfl ?_
    intro A21 C22 s23 o24
    refine AtL.assign (.inl rfl) rfl rfl ?_
    refine AtL.done ?_
    refine At.seq ?_
    refine At.seq ?_
    refine At.region ?_
    refine AtL.move (.inl rfl) rfl rfl ?_
    refine AtL.pick (H' := s11 :: [(b1, .cells #[.int .i64 m, .bool (frB false m (y.l.drop off) ((l.getD i (⟨none, 0, []⟩ : Bs)).l)), .slice A8 l10.length C9, .int .i64 (p13 : Int), .int .i8 lr14, .int .i64 (if false = true then 0 else (frF m ((y.l.drop off) ++ ((l.getD i (⟨none, 0, []⟩ : Bs)).l))).e)] 56 (0, 0))] :: s5 :: segsOf ys7 :: s23 :: segsOf ys :: H) [2, 3, 0, 1, 4, 5] 6 rfl rfl ?_
    refine AtL.call tf_body25 (.inl rfl) rfl rfl (left_ok (y := ⟨A8, C9, l10, s11, o12⟩) (off := p13) (by first | omega | (dsimp only; omega)) (by first | omega | (dsimp only; omega)) (by first | omega | assumption)) ?_
    rintro _ _ ⟨rfl, rfl⟩
    refine AtL.move (.inl rfl) rfl rfl ?_
    refine AtL.add (z := m + 1) (.inl rfl) rfl rfl rfl (w64 (by omega) (by omega)) ?_
    refine AtL.gtr (.inl rfl) rfl rfl rfl ?_
    refine AtL.done ?_
    refine At.condIs false rfl (decide_eq_false (by dsimp only; omega)) ?_
    refine At.skip ?_
    refine At.seq ?_
    refine At.region ?_
    refine AtL.move (.inl rfl) rfl rfl ?_
    refine AtL.nei (.inl rfl) rfl rfl rfl ?_
    refine AtL.done ?_
    refine At.cond rfl ?_ ?_
    · intro hc4
      have hc4 : ¬ (((frP false m (y.l.drop off) ((l.getD i (⟨none, 0, []⟩ : Bs)).l)).e) = 0) := of_decide_eq_false (bnot_true hc4)
      refine At.seq ?_
      refine At.region ?_
      refine AtL.move (.inl rfl) rfl rfl ?_
      refine AtL.move (.inl rfl) rfl rfl ?_
      refine AtL.assign (.inl rfl) rfl rfl ?_
      refine AtL.assign (.inl rfl) rfl rfl ?_
      refine AtL.assign (.inl rfl) rfl rfl ?_
      refine AtL.done ?_
      refine At.pick (H' := segsOf ys :: segsOf ys7 :: s11 :: [(b1, .cells #[.int .i64 m, .bool (frB false m (y.l.drop off) ((l.getD i (⟨none, 0, []⟩ : Bs)).l)), .slice A8 l10.length C9, .int .i64 (p13 : Int), .int .i8 lr14, .int .i64 (if false = true then 0 else (frF m ((y.l.drop off) ++ ((l.getD i (⟨none, 0, []⟩ : Bs)).l))).e)] 56 (0, 0))] :: s5 :: s23 :: H) [5, 3, 0, 1, 2, 4] 6 rfl rfl ?_
      refine At.flat (flat_app ys ys7 _) ?_
      refine At.pick (H' := s23 :: segsOf (ys ++ ys7) :: H) [4, 0] 5 rfl rfl ?_
      have hz9 : (frF m (y.l.drop off ++ (l.getD i ⟨none, 0, []⟩).l)).e ≠ 0 := by rw [← hP]; exact hc4
      have hE := fr_stop m (l.map (·.l)) (i + 1) (by rw [hst]; exact hz9)
      rw [hE, hst]
      exact At.ret Tryd.func16 rfl rfl (⟨⟨A21, C22, x.l ++ l4, s23, o24⟩, ys ++ ys7, by dsimp only; rw [hxy, h15, List.map_append], by rw [List.map_append]; dsimp only; rw [h16, hP], by rw [hP]; rfl, rfl⟩)
    · intro hc4
      have hc4 : ((frP false m (y.l.drop off) ((l.getD i (⟨none, 0, []⟩ : Bs)).l)).e) = 0 := of_decide_eq_true (bnot_false hc4)
      have hz9 : (frF m (y.l.drop off ++ (l.getD i ⟨none, 0, []⟩).l)).e = 0 := by rw [← hP]; omega
      have hfB : frB false m (y.l.drop off) (l.getD i ⟨none, 0, []⟩).l = false := by rw [frB, if_neg (by simp), hz9]; rfl
      have hfE : (if false = true then 0 else (frF m (y.l.drop off ++ (l.getD i ⟨none, 0, []⟩).l)).e) = 0 := by rw [if_neg (by simp), hz9]
      refine At.skip ?_
      refine At.inBlock ?_
      refine At.region ?_
      refine AtL.move (.inl rfl) rfl rfl ?_
      refine AtL.add (z := (i : Int) + 1) (.inl rfl) rfl rfl rfl (w64 (by omega) (by omega)) ?_
      refine AtL.assign (.inl rfl) rfl rfl ?_
      refine AtL.done ?_
      refine At.pick (H' := segsOf ys :: segsOf ys7 :: s11 :: [(b1, .cells #[.int .i64 m, .bool (frB false m (y.l.drop off) ((l.getD i (⟨none, 0, []⟩ : Bs)).l)), .slice A8 l10.length C9, .int .i64 (p13 : Int), .int .i8 lr14, .int .i64 (if false = true then 0 else (frF m ((y.l.drop off) ++ ((l.getD i (⟨none, 0, []⟩ : Bs)).l))).e)] 56 (0, 0))] :: s5 :: s23 :: H) [5, 3, 0, 1, 2, 4] 6 rfl rfl ?_
      refine At.flat (flat_app ys ys7 _) ?_
      refine At.eqH (H' := segsOf (ys ++ ys7) :: s11 :: [(b1, .cells #[.int .i64 m, .bool false, .slice A8 l10.length C9, .int .i64 (p13 : Int), .int .i8 lr14, .int .i64 0] 56 (0, 0))] :: s5 :: s23 :: H) (by rw [hfB, hfE]) ?_
      refine At.pick (H' := s23 :: segsOf (ys ++ ys7) :: s11 :: [(b1, .cells #[.int .i64 m, .bool false, .slice A8 l10.length C9, .int .i64 (p13 : Int), .int .i8 lr14, .int .i64 0] 56 (0, 0))] :: H) [4, 0, 1, 2] 5 rfl rfl ?_
      refine ihL1 (i + 1) (⟨A21, C22, x.l ++ l4, s23, o24⟩) (ys ++ ys7) (⟨A8, C9, l10, s11, o12⟩) p13 lr14 (⟨by rw [hst, hq]; rw [List.map_append]; dsimp only; rw [h16, h19, hP]; rw [show (frF m (y.l.drop off ++ (l.getD i ⟨none, 0, []⟩).l)).e = 0 from hz9], by dsimp only; rw [hxy, h15, List.map_append], by omega, h17, by have h9 := h18; dsimp only; omega⟩) (by omega) _ ?_
      exact ⟨rfl, rfl, rfl, (by first | rfl | exact slLen (by simp []) | exact intEq (by omega) | exact intEq (by simp []) | exact slLen (by simp []; omega)), (by first | rfl | exact slLen (by simp []) | exact intEq (by omega) | exact intEq (by simp []) | exact slLen (by simp []; omega)), trivial⟩
  · intro hc2
    have hc2 : ¬ ((i : Int) < (l.length : Int)) := of_decide_eq_false hc2
    refine At.exit rfl ?_
    refine At.seq ?_
    refine At.region ?_
    refine AtL.move (.inl rfl) rfl rfl ?_
    refine AtL.assign (.inl rfl) rfl rfl ?_
    refine AtL.assign (.inl rfl) rfl rfl ?_
    refine AtL.assign (.inl rfl) rfl rfl ?_
    refine AtL.done ?_
    refine At.pick (H' := x.s :: segsOf ys :: H) [0, 1] 4 rfl rfl ?_
    rw [show (l.map (·.l)).take i = l.map (·.l) from List.take_of_length_le (by simp; omega)] at hI
    rw [hI]
    exact At.ret Tryd.func16 rfl rfl (⟨x, ys, hxy, rfl, rfl, rfl⟩)

set_option maxHeartbeats 400000 in
theorem cuts_ok {w0 : World} {base : Nat} {H : List Seg} (m : Int) {A Ac Ad : Option Addr} {C Cc Cd : Nat} {l : List UInt8} {ns ms : List Int} (h : Rd tyB w0 base H A C l) (h2 : Rd tyI w0 base H Ac Cc ns) (h3 : Rd tyI w0 base H Ad Cd ms) :
    SCalls Tryd.prog 8 [.int .i64 m, .slice A l.length C, .slice Ac ns.length Cc, .slice Ad ms.length Cd] w0 base (H) (fun v H' => v = .bool true ∧ H' = H) := by
  refine SCalls.of_walk (n := 74) Tryd.func8 rfl rfl rfl fun cs => ?_
  refine At.seq ?_
  refine At.region ?_
  refine AtL.assign (.inl rfl) rfl rfl ?_
  refine AtL.done ?_
  refine At.seq ?_
  refine At.region ?_
  refine AtL.call tf_body7 (.inl rfl) rfl rfl known_ok ?_
  rintro _ _ ⟨rfl, hHq⟩
  obtain rfl := hHq.symm
  refine AtL.assign (.inl rfl) rfl rfl ?_
  refine AtL.done ?_
  refine At.seq ?_
  refine At.seq ?_
  refine At.region ?_
  refine AtL.move (.inl rfl) rfl rfl ?_
  refine AtL.lss (.inl rfl) rfl rfl rfl ?_
  refine AtL.move (.inl rfl) rfl rfl ?_
  refine AtL.join 3 (E' := [(22, .bool (decide (((m : Int) < 12) ∨ (65535 < (m : Int))))), (0, .int .i64 m), (1, .slice A l.length C), (2, .slice Ac ns.length Cc), (3, .slice Ad ms.length Cd), (9, .bool true)]) (H' := H) (fun J => ?_) ?_
  · refine AtL.split (t := 19) rfl ?_ ?_
    · intro hs19
      have hs19 : (m : Int) < 12 := of_decide_eq_true hs19
      refine AtL.skipped rfl rfl rfl rfl rfl rfl ?_
      refine AtL.skipped rfl rfl rfl rfl rfl rfl ?_
      refine AtL.pickT (.inl rfl) rfl rfl rfl ?_
      exact J _ (by exact ⟨(boolIs (by clear J; first | (simp [hs19]; done) | (simp_all; done) | grind)), rfl, rfl, rfl, rfl, rfl, trivial⟩)
    · intro hs19
      have hs19 : ¬ ((m : Int) < 12) := of_decide_eq_false hs19
      refine AtL.move (.inr ⟨_, _, _, rfl, rfl, rfl, rfl⟩) rfl rfl ?_
      refine AtL.gtr (.inr ⟨_, _, _, rfl, rfl, rfl, rfl⟩) rfl rfl rfl ?_
      refine AtL.pickF (.inl rfl) rfl rfl rfl ?_
      exact J _ (by exact ⟨(boolIs (by clear J; first | (simp [hs19]; done) | (simp_all; done) | grind)), rfl, rfl, rfl, rfl, rfl, trivial⟩)
  · skip
    refine AtL.move (.inl rfl) rfl rfl ?_
    refine AtL.join 4 (E' := [(27, .bool (decide ((((m : Int) < 12) ∨ (65535 < (m : Int))) ∨ (20000 < (l.length : Int))))), (0, .int .i64 m), (1, .slice A l.length C), (2, .slice Ac ns.length Cc), (3, .slice Ad ms.length Cd), (9, .bool true)]) (H' := H) (fun J => ?_) ?_
    · refine AtL.split (t := 23) rfl ?_ ?_
      · intro hs23
        have hs23 : ((m : Int) < 12) ∨ (65535 < (m : Int)) := of_decide_eq_true hs23
        refine AtL.skipped rfl rfl rfl rfl rfl rfl ?_
        refine AtL.skipped rfl rfl rfl rfl rfl rfl ?_
        refine AtL.skipped rfl rfl rfl rfl rfl rfl ?_
        refine AtL.pickT (.inl rfl) rfl rfl rfl ?_
        exact J _ (by exact ⟨(boolIs (by clear J; first | (simp [hs23]; done) | (simp_all; done) | grind)), rfl, rfl, rfl, rfl, rfl, trivial⟩)
      · intro hs23
        have hs23 : ¬ (((m : Int) < 12) ∨ (65535 < (m : Int))) := of_decide_eq_false hs23
        refine AtL.move (.inr ⟨_, _, _, rfl, rfl, rfl, rfl⟩) rfl rfl ?_
        refine AtL.lenL Tryd.underlying22 (.inr ⟨_, _, _, rfl, rfl, rfl, rfl⟩) rfl rfl ?_
        refine AtL.gtr (.inr ⟨_, _, _, rfl, rfl, rfl, rfl⟩) rfl rfl rfl ?_
        refine AtL.pickF (.inl rfl) rfl rfl rfl ?_
        exact J _ (by exact ⟨(boolIs (by clear J; first | (simp [hs23]; done) | (simp_all; done) | grind)), rfl, rfl, rfl, rfl, rfl, trivial⟩)
    · skip
      refine AtL.move (.inl rfl) rfl rfl ?_
      refine AtL.join 4 (E' := [(32, .bool (decide (((((m : Int) < 12) ∨ (65535 < (m : Int))) ∨ (20000 < (l.length : Int))) ∨ (60 < (ns.length : Int))))), (0, .int .i64 m), (1, .slice A l.length C), (2, .slice Ac ns.length Cc), (3, .slice Ad ms.length Cd), (9, .bool true)]) (H' := H) (fun J => ?_) ?_
      · refine AtL.split (t := 28) rfl ?_ ?_
        · intro hs28
          have hs28 : (((m : Int) < 12) ∨ (65535 < (m : Int))) ∨ (20000 < (l.length : Int)) := of_decide_eq_true hs28
          refine AtL.skipped rfl rfl rfl rfl rfl rfl ?_
          refine AtL.skipped rfl rfl rfl rfl rfl rfl ?_
          refine AtL.skipped rfl rfl rfl rfl rfl rfl ?_
          refine AtL.pickT (.inl rfl) rfl rfl rfl ?_
          exact J _ (by exact ⟨(boolIs (by clear J; first | (simp [hs28]; done) | (simp_all; done) | grind)), rfl, rfl, rfl, rfl, rfl, trivial⟩)
        · intro hs28
          have hs28 : ¬ ((((m : Int) < 12) ∨ (65535 < (m : Int))) ∨ (20000 < (l.length : Int))) := of_decide_eq_false hs28
          refine AtL.move (.inr ⟨_, _, _, rfl, rfl, rfl, rfl⟩) rfl rfl ?_
          refine AtL.lenL Tryd.underlying32 (.inr ⟨_, _, _, rfl, rfl, rfl, rfl⟩) rfl rfl ?_
          refine AtL.gtr (.inr ⟨_, _, _, rfl, rfl, rfl, rfl⟩) rfl rfl rfl ?_
          refine AtL.pickF (.inl rfl) rfl rfl rfl ?_
          exact J _ (by exact ⟨(boolIs (by clear J; first | (simp [hs28]; done) | (simp_all; done) | grind)), rfl, rfl, rfl, rfl, rfl, trivial⟩)
      · skip
        refine AtL.move (.inl rfl) rfl rfl ?_
        refine AtL.join 4 (E' := [(37, .bool (decide ((((((m : Int) < 12) ∨ (65535 < (m : Int))) ∨ (20000 < (l.length : Int))) ∨ (60 < (ns.length : Int))) ∨ (60 < (ms.length : Int))))), (0, .int .i64 m), (1, .slice A l.length C), (2, .slice Ac ns.length Cc), (3, .slice Ad ms.length Cd), (9, .bool true)]) (H' := H) (fun J => ?_) ?_
        · refine AtL.split (t := 33) rfl ?_ ?_
          · intro hs33
            have hs33 : ((((m : Int) < 12) ∨ (65535 < (m : Int))) ∨ (20000 < (l.length : Int))) ∨ (60 < (ns.length : Int)) := of_decide_eq_true hs33
            refine AtL.skipped rfl rfl rfl rfl rfl rfl ?_
            refine AtL.skipped rfl rfl rfl rfl rfl rfl ?_
            refine AtL.skipped rfl rfl rfl rfl rfl rfl ?_
            refine AtL.pickT (.inl rfl) rfl rfl rfl ?_
            exact J _ (by exact ⟨(boolIs (by clear J; first | (simp [hs33]; done) | (simp_all; done) | grind)), rfl, rfl, rfl, rfl, rfl, trivial⟩)
          · intro hs33
            have hs33 : ¬ (((((m : Int) < 12) ∨ (65535 < (m : Int))) ∨ (20000 < (l.length : Int))) ∨ (60 < (ns.length : Int))) := of_decide_eq_false hs33
            refine AtL.move (.inr ⟨_, _, _, rfl, rfl, rfl, rfl⟩) rfl rfl ?_
            refine AtL.lenL Tryd.underlying32 (.inr ⟨_, _, _, rfl, rfl, rfl, rfl⟩) rfl rfl ?_
            refine AtL.gtr (.inr ⟨_, _, _, rfl, rfl, rfl, rfl⟩) rfl rfl rfl ?_
            refine AtL.pickF (.inl rfl) rfl rfl rfl ?_
            exact J _ (by exact ⟨(boolIs (by clear J; first | (simp [hs33]; done) | (simp_all; done) | grind)), rfl, rfl, rfl, rfl, rfl, trivial⟩)
        · skip
          refine AtL.done ?_
          refine At.cond rfl ?_ ?_
          · intro hc1
            have hc1 : (((((m : Int) < 12) ∨ (65535 < (m : Int))) ∨ (20000 < (l.length : Int))) ∨ (60 < (ns.length : Int))) ∨ (60 < (ms.length : Int)) := of_decide_eq_true hc1
            refine At.seq ?_
            refine At.region ?_
            refine AtL.move (.inl rfl) rfl rfl ?_
            refine AtL.assign (.inl rfl) rfl rfl ?_
            refine AtL.done ?_
            exact At.ret Tryd.func8 rfl rfl (⟨rfl, rfl⟩)
          · intro hc1
            have hc1 : ¬ ((((((m : Int) < 12) ∨ (65535 < (m : Int))) ∨ (20000 < (l.length : Int))) ∨ (60 < (ns.length : Int))) ∨ (60 < (ms.length : Int))) := of_decide_eq_false hc1
            refine At.skip ?_
            refine At.seq ?_
            refine At.region ?_
            refine AtL.move (.inl rfl) rfl rfl ?_
            refine AtL.move (.inl rfl) rfl rfl ?_
            refine AtL.move (.inl rfl) rfl rfl ?_
            refine AtL.call tf_body17 (.inl rfl) rfl rfl (cut_ok (l := l) (ns := ns) h h2 (by first | omega | (simp only [List.length_append, List.length_cons, List.length_nil]; omega) | (simp; done) | (simp; omega)) (by omega)) ?_
            rintro _ _ ⟨⟨A1, C2, l3, s4, o5⟩, hm6, he7, rfl, rfl⟩
            obtain ⟨hf8, hk9⟩ := cut_facts (x := l3) hm6
            refine AtL.call tf_body16 (.inl rfl) rfl rfl (by have h9 := pushed_ok (w0 := w0) (base := base) (H := s4 :: H) m (by omega) (l := l3) (o5.rd (i := 0) rfl) (fun x hx => Rd.skip 1 (he7 x hx)) (by rw [hf8]; first | omega | (simp only [List.length_append]; omega)) (by omega); rw [hf8] at h9; exact h9) ?_
            rintro _ _ ⟨⟨A10, C11, l12, s13, o14⟩, ys15, h16, h17, rfl, rfl⟩
            dsimp only at h16
            have hm18 : l12.map (·.l) = (frF m l).out := by rw [h16, List.map_map]; exact h17
            refine AtL.move (.inl rfl) rfl rfl ?_
            refine AtL.extract (.inl rfl) rfl rfl rfl ?_
            refine AtL.extract (.inl rfl) rfl rfl rfl ?_
            refine AtL.extract (.inl rfl) rfl rfl rfl ?_
            refine AtL.assign (.inl rfl) rfl rfl ?_
            refine AtL.assign (.inl rfl) rfl rfl ?_
            refine AtL.assign (.inl rfl) rfl rfl ?_
            refine AtL.done ?_
            refine At.seq ?_
            refine At.region ?_
            refine AtL.move (.inl rfl) rfl rfl ?_
            refine AtL.move (.inl rfl) rfl rfl ?_
            refine AtL.move (.inl rfl) rfl rfl ?_
            refine AtL.call tf_body17 (.inl rfl) rfl rfl (cut_ok (l := l) (ns := ms) (Rd.skip 3 h) (Rd.skip 3 h3) (by first | omega | (simp only [List.length_append, List.length_cons, List.length_nil]; omega) | (simp; done) | (simp; omega)) (by omega)) ?_
            rintro _ _ ⟨⟨A19, C20, l21, s22, o23⟩, hm24, he25, rfl, rfl⟩
            obtain ⟨hf26, hk27⟩ := cut_facts (x := l21) hm24
            refine AtL.call tf_body16 (.inl rfl) rfl rfl (by have h9 := pushed_ok (w0 := w0) (base := base) (H := s22 :: s13 :: segsOf ys15 :: s4 :: H) m (by omega) (l := l21) (o23.rd (i := 0) rfl) (fun x hx => Rd.pick [1, 2, 3] 4 rfl rfl (he25 x hx)) (by rw [hf26]; first | omega | (simp only [List.length_append]; omega)) (by omega); rw [hf26] at h9; exact h9) ?_
            rintro _ _ ⟨⟨A28, C29, l30, s31, o32⟩, ys33, h34, h35, rfl, rfl⟩
            dsimp only at h34
            have hm36 : l30.map (·.l) = (frF m l).out := by rw [h34, List.map_map]; exact h35
            refine AtL.move (.inl rfl) rfl rfl ?_
            refine AtL.extract (.inl rfl) rfl rfl rfl ?_
            refine AtL.extract (.inl rfl) rfl rfl rfl ?_
            refine AtL.extract (.inl rfl) rfl rfl rfl ?_
            refine AtL.assign (.inl rfl) rfl rfl ?_
            refine AtL.assign (.inl rfl) rfl rfl ?_
            refine AtL.assign (.inl rfl) rfl rfl ?_
            refine AtL.done ?_
            refine At.seq ?_
            refine At.region ?_
            refine AtL.move (.inl rfl) rfl rfl ?_
            refine AtL.move (.inl rfl) rfl rfl ?_
            refine AtL.move (.inr ⟨_, _, _, rfl, rfl, rfl, rfl⟩) rfl rfl ?_
            refine AtL.pickT (.inl rfl) rfl rfl rfl ?_
            refine AtL.move (.inl rfl) rfl rfl ?_
            refine AtL.move (.inr ⟨_, _, _, rfl, rfl, rfl, rfl⟩) rfl rfl ?_
            refine AtL.pickT (.inl rfl) rfl rfl rfl ?_
            refine AtL.move (.inl rfl) rfl rfl ?_
            refine AtL.move (.inr ⟨_, _, _, rfl, rfl, rfl, rfl⟩) rfl rfl ?_
            refine AtL.move (.inr ⟨_, _, _, rfl, rfl, rfl, rfl⟩) rfl rfl ?_
            refine AtL.eqi (.inr ⟨_, _, _, rfl, rfl, rfl, rfl⟩) rfl rfl rfl ?_
            refine AtL.pickT (.inl rfl) rfl rfl rfl ?_
            refine AtL.move (.inl rfl) rfl rfl ?_
            refine AtL.join 4 (E' := [(73, .bool (decide (l12.map (·.l) = l30.map (·.l))))]) (H' := s31 :: segsOf ys33 :: s22 :: s13 :: segsOf ys15 :: s4 :: H) (fun J => ?_) ?_
            · refine AtL.split (t := 69) rfl ?_ ?_
              · intro hs69
                have hs69 : ((frF m l).e : Int) = ((frF m l).e) := of_decide_eq_true hs69
                refine AtL.move (.inr ⟨_, _, _, rfl, rfl, rfl, rfl⟩) rfl rfl ?_
                refine AtL.move (.inr ⟨_, _, _, rfl, rfl, rfl, rfl⟩) rfl rfl ?_
                refine AtL.call tf_body18 (.inr ⟨_, _, _, rfl, rfl, rfl, rfl⟩) rfl rfl (slists_ok (a := l12) (b := l30) (o14.rd (i := 3) rfl) (fun x hx => Rd.pick [4] 6 rfl rfl ((Sl.rdV (H := segsOf ys15 :: H) h16 (i := 0) rfl) x hx)) (o32.rd (i := 0) rfl) (fun x hx => Rd.pick [1] 6 rfl rfl ((Sl.rdV (H := segsOf ys33 :: H) h34 (i := 0) rfl) x hx))) ?_
                rintro _ _ ⟨rfl, rfl⟩
                refine AtL.pickT (.inl rfl) rfl rfl rfl ?_
                exact J _ (by exact ⟨(boolIs (by clear J; first | (simp [hs69]; done) | (simp_all; done) | grind)), trivial⟩)
              · intro hs69
                exact Bool.noConfusion (hs69.symm.trans (decide_eq_true rfl))
            · skip
              refine AtL.assign (.inl rfl) rfl rfl ?_
              refine AtL.done ?_
              refine At.pick (H' := H) [] 6 rfl rfl ?_
              exact At.ret Tryd.func8 rfl rfl (⟨congrArg Value.bool (show (decide (l12.map (·.l) = l30.map (·.l))) = true by simp [hm18, hm36]), rfl⟩)

/-- Frames in a row, as a reader tells them: so long as none was too long; and behind the first that was. -/
def Fr0 (m : Int) (b : List UInt8) (ls : List (List UInt8)) : Prop := ∀ t, frF m (b ++ t) = ⟨ls ++ (frF m t).out, (frF m t).e, (frF m t).rest⟩
def Fr3 (m : Int) (b : List UInt8) (ls : List (List UInt8)) : Prop := ∀ t, frF m (b ++ t) = ⟨ls, 3, []⟩
theorem Fr0.start (m : Int) : Fr0 m [] [] := fun t => rfl
theorem Fr0.step {m : Int} {b l : List UInt8} {ls : List (List UInt8)} (h : Fr0 m b ls) (he : frmE l = 0) (hm : ¬ m < (l.length : Int)) : Fr0 m (b ++ frmL l) (ls ++ [l]) := fun t => by
  rw [List.append_assoc, h, frm_ahead he, if_neg hm]
  simp
theorem Fr0.long {m : Int} {b l : List UInt8} {ls : List (List UInt8)} (h : Fr0 m b ls) (he : frmE l = 0) (hm : m < (l.length : Int)) : Fr3 m (b ++ frmL l) ls := fun t => by
  rw [List.append_assoc, h, frm_ahead he, if_pos hm]
  simp
theorem Fr3.step {m : Int} {b l : List UInt8} {ls : List (List UInt8)} (h : Fr3 m b ls) : Fr3 m (b ++ l) ls := fun t => by rw [List.append_assoc, h]
theorem Fr0.end_ {m : Int} {b : List UInt8} {ls : List (List UInt8)} (h : Fr0 m b ls) : frF m b = ⟨ls, 0, []⟩ := by
  have := h []
  rw [List.append_nil, fr_nil, List.append_nil] at this
  exact this
theorem Fr3.end_ {m : Int} {b : List UInt8} {ls : List (List UInt8)} (h : Fr3 m b ls) : frF m b = ⟨ls, 3, []⟩ := by
  have := h []
  rw [List.append_nil] at this
  exact this
theorem frm_iff (l : List UInt8) (h : l.length ≤ 600) : (!(decide (frmE l = 0) == decide ((12 : Int) ≤ (l.length : Int)))) = false := by
  unfold frmE
  by_cases h2 : l.length < 12
  · rw [if_pos h2, decide_eq_false (show ¬ (4 : Int) = 0 by decide), decide_eq_false (show ¬ (12 : Int) ≤ (l.length : Int) by omega)]; rfl
  · rw [if_neg h2, if_neg (show ¬ 65535 < l.length by omega), decide_eq_true rfl, decide_eq_true (show (12 : Int) ≤ (l.length : Int) by omega)]; rfl
theorem frmE_iff (l : List UInt8) (h : l.length ≤ 600) : frmE l = if 12 ≤ l.length then 0 else 4 := by
  unfold frmE
  split
  · rw [if_neg (by omega)]
  · rw [if_neg (by omega), if_pos (by omega)]

set_option maxHeartbeats 2000000 in
theorem back_ok {w0 : World} {base : Nat} {H : List Seg} (m : Int) {A Ac : Option Addr} {C Cc : Nat} {l : List Bs} {ns : List Int} (h : Rd tyL w0 base H A C l) (he : ∀ x ∈ l, Rd tyB w0 base H x.A x.C x.l) (h2 : Rd tyI w0 base H Ac Cc ns) :
    SCalls Tryd.prog 4 [.int .i64 m, .slice A l.length C, .slice Ac ns.length Cc] w0 base (H) (fun v H' => v = .bool true ∧ H' = H) := by
  refine SCalls.of_walk (n := 111) Tryd.func4 rfl rfl rfl fun cs => ?_
  refine At.seq ?_
  refine At.region ?_
  refine AtL.assign (.inl rfl) rfl rfl ?_
  refine AtL.done ?_
  refine At.seq ?_
  refine At.region ?_
  refine AtL.call tf_body9 (.inl rfl) rfl rfl awake_ok ?_
  rintro _ _ ⟨rfl, hHq⟩
  obtain rfl := hHq.symm
  refine AtL.assign (.inl rfl) rfl rfl ?_
  refine AtL.done ?_
  refine At.seq ?_
  refine At.seq ?_
  refine At.region ?_
  refine AtL.move (.inl rfl) rfl rfl ?_
  refine AtL.lss (.inl rfl) rfl rfl rfl ?_
  refine AtL.move (.inl rfl) rfl rfl ?_
  refine AtL.split (t := 20) rfl ?_ ?_
  · intro hs20
    have hs20 : (m : Int) < 12 := of_decide_eq_true hs20
    refine AtL.skipped rfl rfl rfl rfl rfl rfl ?_
    refine AtL.skipped rfl rfl rfl rfl rfl rfl ?_
    refine AtL.pickT (.inl rfl) rfl rfl rfl ?_
    refine AtL.move (.inl rfl) rfl rfl ?_
    refine AtL.skipped rfl rfl rfl rfl rfl rfl ?_
    refine AtL.skipped rfl rfl rfl rfl rfl rfl ?_
    refine AtL.skipped rfl rfl rfl rfl rfl rfl ?_
    refine AtL.pickT (.inl rfl) rfl rfl rfl ?_
    refine AtL.move (.inl rfl) rfl rfl ?_
    refine AtL.skipped rfl rfl rfl rfl rfl rfl ?_
    refine AtL.skipped rfl rfl rfl rfl rfl rfl ?_
    refine AtL.skipped rfl rfl rfl rfl rfl rfl ?_
    refine AtL.pickT (.inl rfl) rfl rfl rfl ?_
    refine AtL.done ?_
    refine At.condT rfl ?_
    refine At.seq ?_
    refine At.region ?_
    refine AtL.move (.inl rfl) rfl rfl ?_
    refine AtL.assign (.inl rfl) rfl rfl ?_
    refine AtL.done ?_
    exact At.ret Tryd.func4 rfl rfl (⟨rfl, rfl⟩)
  · intro hs20
    have hs20 : ¬ ((m : Int) < 12) := of_decide_eq_false hs20
    refine AtL.move (.inr ⟨_, _, _, rfl, rfl, rfl, rfl⟩) rfl rfl ?_
    refine AtL.gtr (.inr ⟨_, _, _, rfl, rfl, rfl, rfl⟩) rfl rfl rfl ?_
    refine AtL.pickF (.inl rfl) rfl rfl rfl ?_
    refine AtL.move (.inl rfl) rfl rfl ?_
    refine AtL.split (t := 24) rfl ?_ ?_
    · intro hs24
      have hs24 : 65535 < (m : Int) := of_decide_eq_true hs24
      refine AtL.skipped rfl rfl rfl rfl rfl rfl ?_
      refine AtL.skipped rfl rfl rfl rfl rfl rfl ?_
      refine AtL.skipped rfl rfl rfl rfl rfl rfl ?_
      refine AtL.pickT (.inl rfl) rfl rfl rfl ?_
      refine AtL.move (.inl rfl) rfl rfl ?_
      refine AtL.skipped rfl rfl rfl rfl rfl rfl ?_
      refine AtL.skipped rfl rfl rfl rfl rfl rfl ?_
      refine AtL.skipped rfl rfl rfl rfl rfl rfl ?_
      refine AtL.pickT (.inl rfl) rfl rfl rfl ?_
      refine AtL.done ?_
      refine At.condT rfl ?_
      refine At.seq ?_
      refine At.region ?_
      refine AtL.move (.inl rfl) rfl rfl ?_
      refine AtL.assign (.inl rfl) rfl rfl ?_
      refine AtL.done ?_
      exact At.ret Tryd.func4 rfl rfl (⟨rfl, rfl⟩)
    · intro hs24
      have hs24 : ¬ (65535 < (m : Int)) := of_decide_eq_false hs24
      refine AtL.move (.inr ⟨_, _, _, rfl, rfl, rfl, rfl⟩) rfl rfl ?_
      refine AtL.lenL Tryd.underlying31 (.inr ⟨_, _, _, rfl, rfl, rfl, rfl⟩) rfl rfl ?_
      refine AtL.gtr (.inr ⟨_, _, _, rfl, rfl, rfl, rfl⟩) rfl rfl rfl ?_
      refine AtL.pickF (.inl rfl) rfl rfl rfl ?_
      refine AtL.move (.inl rfl) rfl rfl ?_
      refine AtL.split (t := 29) rfl ?_ ?_
      · intro hs29
        have hs29 : 20 < (l.length : Int) := of_decide_eq_true hs29
        refine AtL.skipped rfl rfl rfl rfl rfl rfl ?_
        refine AtL.skipped rfl rfl rfl rfl rfl rfl ?_
        refine AtL.skipped rfl rfl rfl rfl rfl rfl ?_
        refine AtL.pickT (.inl rfl) rfl rfl rfl ?_
        refine AtL.done ?_
        refine At.condT rfl ?_
        refine At.seq ?_
        refine At.region ?_
        refine AtL.move (.inl rfl) rfl rfl ?_
        refine AtL.assign (.inl rfl) rfl rfl ?_
        refine AtL.done ?_
        exact At.ret Tryd.func4 rfl rfl (⟨rfl, rfl⟩)
      · intro hs29
        have hs29 : ¬ (20 < (l.length : Int)) := of_decide_eq_false hs29
        refine AtL.move (.inr ⟨_, _, _, rfl, rfl, rfl, rfl⟩) rfl rfl ?_
        refine AtL.lenL Tryd.underlying32 (.inr ⟨_, _, _, rfl, rfl, rfl, rfl⟩) rfl rfl ?_
        refine AtL.gtr (.inr ⟨_, _, _, rfl, rfl, rfl, rfl⟩) rfl rfl rfl ?_
        refine AtL.pickF (.inl rfl) rfl rfl rfl ?_
        refine AtL.done ?_
        refine At.cond rfl ?_ ?_
        · intro hc1
          have hc1 : 60 < (ns.length : Int) := of_decide_eq_true hc1
          refine At.seq ?_
          refine At.region ?_
          refine AtL.move (.inl rfl) rfl rfl ?_
          refine AtL.assign (.inl rfl) rfl rfl ?_
          refine AtL.done ?_
          exact At.ret Tryd.func4 rfl rfl (⟨rfl, rfl⟩)
        · intro hc1
          have hc1 : ¬ (60 < (ns.length : Int)) := of_decide_eq_false hc1
          refine At.skip ?_
          refine At.seq ?_
          refine At.region ?_
          refine AtL.assign (.inl rfl) rfl rfl ?_
          refine AtL.done ?_
          refine At.seq ?_
          refine At.region ?_
          refine AtL.assign (.inl rfl) rfl rfl ?_
          refine AtL.assign (.inl rfl) rfl rfl ?_
          refine AtL.done ?_
          refine At.seq ?_
          refine At.seq ?_
          refine At.region ?_
          refine AtL.assign (.inl rfl) rfl rfl ?_
          refine AtL.done ?_
          refine At.block ?_
          refine At.nil ?_
          refine At.loop4 (fun (i : Nat) (n : Nat) (wt : Int) (b : Sl tyB 5) => [(0, .int .i64 m), (1, .slice A l.length C), (2, .slice Ac ns.length Cc), (7, .bool true), (8, .slice b.A b.l.length b.C), (9, .int .i64 (n : Int)), (10, .int .i64 wt), (11, .int .i64 (i : Int))]) (fun (i : Nat) (n : Nat) (wt : Int) (b : Sl tyB 5) => b.s :: H) (fun (i : Nat) (n : Nat) (wt : Int) (b : Sl tyB 5) => (wt = 0 → n = i ∧ Fr0 m b.l ((l.map (·.l)).take i)) ∧ (wt ≠ 0 → wt = 3 ∧ n ≤ i ∧ Fr3 m b.l ((l.map (·.l)).take n)) ∧ i ≤ l.length ∧ b.l.length ≤ 602 * i ∧ (0 < i → l.length ≤ 20)) (fun (i : Nat) (n : Nat) (wt : Int) (b : Sl tyB 5) => l.length - i) 0 0 0 Sl.nil (⟨fun _ => ⟨rfl, Fr0.start m⟩, fun h => absurd rfl h, Nat.zero_le _, by simp [Sl.nil], fun _ => by omega⟩) ⟨rfl, rfl, rfl, rfl, rfl, rfl, rfl, rfl, trivial⟩ rfl ?_
          rintro i n wt b ⟨hW0, hW3, hi, hbl, hl20⟩ ihL1
          refine At.seq ?_
          refine At.seq ?_
          refine At.region ?_
          refine AtL.move (.inl rfl) rfl rfl ?_
          refine AtL.move (.inl rfl) rfl rfl ?_
          refine AtL.lenL Tryd.underlying31 (.inl rfl) rfl rfl ?_
          refine AtL.lss (.inl rfl) rfl rfl rfl ?_
          refine AtL.done ?_
          refine At.cond rfl ?_ ?_
          · intro hc2
            have hc2 : (i : Int) < (l.length : Int) := of_decide_eq_true hc2
            refine At.skip ?_
            refine At.seq ?_
            refine At.block ?_
            refine At.seq ?_
            refine At.seq ?_
            refine At.region ?_
            refine AtL.move (.inl rfl) rfl rfl ?_
            refine AtL.move (.inl rfl) rfl rfl ?_
            refine AtL.indexL i (Rd.skip 1 h) Tryd.underlying31 tf_sz22 (.inl rfl) rfl rfl rfl rfl (by omega) ?_
            refine AtL.load (v := .slice ((l.getD i (⟨none, 0, []⟩ : Bs)).A) ((l.getD i (⟨none, 0, []⟩ : Bs)).l).length ((l.getD i (⟨none, 0, []⟩ : Bs)).C)) tf_flat22 (.inl rfl) rfl rfl (Rd.cell0 (Rd.skip 1 h) (getD_some (⟨none, 0, []⟩ : Bs) (by omega)) rfl) ?_
            refine AtL.lenL Tryd.underlying22 (.inl rfl) rfl rfl ?_
            refine AtL.gtr (.inl rfl) rfl rfl rfl ?_
            refine AtL.done ?_
            refine At.cond rfl ?_ ?_
            · intro hc3
              have hc3 : 600 < (((l.getD i (⟨none, 0, []⟩ : Bs)).l).length : Int) := of_decide_eq_true hc3
              refine At.seq ?_
              refine At.region ?_
              refine AtL.move (.inl rfl) rfl rfl ?_
              refine AtL.assign (.inl rfl) rfl rfl ?_
              refine AtL.done ?_
              refine At.pick (H' := H) [] 1 rfl rfl ?_
              exact At.ret Tryd.func4 rfl rfl (⟨rfl, rfl⟩)
            · intro hc3
              have hc3 : ¬ (600 < (((l.getD i (⟨none, 0, []⟩ : Bs)).l).length : Int)) := of_decide_eq_false hc3
              have hE := frmE_iff (l.getD i ⟨none, 0, []⟩).l (by omega)
              have hpl := frmL_len (l.getD i ⟨none, 0, []⟩).l
              have hlm : 602 * (i + 1) ≤ 602 * 21 := by omega
              refine At.skip ?_
              refine At.seq ?_
              refine At.region ?_
              refine AtL.move (.inl rfl) rfl rfl ?_
              refine AtL.move (.inl rfl) rfl rfl ?_
              refine AtL.indexL i (Rd.skip 1 h) Tryd.underlying31 tf_sz22 (.inl rfl) rfl rfl rfl rfl (by omega) ?_
              refine AtL.load (v := .slice ((l.getD i (⟨none, 0, []⟩ : Bs)).A) ((l.getD i (⟨none, 0, []⟩ : Bs)).l).length ((l.getD i (⟨none, 0, []⟩ : Bs)).C)) tf_flat22 (.inl rfl) rfl rfl (Rd.cell0 (Rd.skip 1 h) (getD_some (⟨none, 0, []⟩ : Bs) (by omega)) rfl) ?_
              refine AtL.call tf_body11 (.inl rfl) rfl rfl (put_ok (l := (l.getD i (⟨none, 0, []⟩ : Bs)).l) (Rd.skip 1 (he _ (getD_mem (l := l) (i := i) (d := (⟨none, 0, []⟩ : Bs)) (by omega)))) (by first | omega | (simp only [List.length_append, List.length_cons, List.length_nil]; omega) | (simp; done) | (simp; omega))) ?_
              rintro _ _ ⟨⟨A1, C2, l3, s4, o5⟩, hx6, rfl, rfl⟩
              obtain rfl : frmL ((l.getD i (⟨none, 0, []⟩ : Bs)).l) = l3 := hx6.symm
              refine AtL.move (.inl rfl) rfl rfl ?_
              refine AtL.extract (.inl rfl) rfl rfl rfl ?_
              refine AtL.extract (.inl rfl) rfl rfl rfl ?_
              refine AtL.assign (.inl rfl) rfl rfl ?_
              refine AtL.assign (.inl rfl) rfl rfl ?_
              refine AtL.done ?_
              refine At.seq ?_
              refine At.seq ?_
              refine At.region ?_
              refine AtL.move (.inl rfl) rfl rfl ?_
              refine AtL.eqi (.inl rfl) rfl rfl rfl ?_
              refine AtL.move (.inl rfl) rfl rfl ?_
              refine AtL.move (.inl rfl) rfl rfl ?_
              refine AtL.indexL i (Rd.skip 2 h) Tryd.underlying31 tf_sz22 (.inl rfl) rfl rfl rfl rfl (by omega) ?_
              refine AtL.load (v := .slice ((l.getD i (⟨none, 0, []⟩ : Bs)).A) ((l.getD i (⟨none, 0, []⟩ : Bs)).l).length ((l.getD i (⟨none, 0, []⟩ : Bs)).C)) tf_flat22 (.inl rfl) rfl rfl (Rd.cell0 (Rd.skip 2 h) (getD_some (⟨none, 0, []⟩ : Bs) (by omega)) rfl) ?_
              refine AtL.lenL Tryd.underlying22 (.inl rfl) rfl rfl ?_
              refine AtL.geq (.inl rfl) rfl rfl rfl ?_
              refine AtL.neb Tryd.underlying4 (.inl rfl) rfl rfl rfl ?_
              refine AtL.done ?_
              refine At.condIs false rfl (frm_iff _ (by omega)) ?_
              refine At.skip ?_
              refine At.seq ?_
              refine At.seq ?_
              refine At.region ?_
              refine AtL.move (.inl rfl) rfl rfl ?_
              refine AtL.nei (.inl rfl) rfl rfl rfl ?_
              refine AtL.done ?_
              refine At.cond rfl ?_ ?_
              · intro hc5
                have hc5 : ¬ ((frmE ((l.getD i (⟨none, 0, []⟩ : Bs)).l)) = 0) := of_decide_eq_false (bnot_true hc5)
                refine At.seq ?_
                refine At.region ?_
                refine AtL.move (.inl rfl) rfl rfl ?_
                refine AtL.assign (.inl rfl) rfl rfl ?_
                refine AtL.done ?_
                refine At.pick (H' := H) [] 2 rfl rfl ?_
                exact At.ret Tryd.func4 rfl rfl (⟨rfl, rfl⟩)
              · intro hc5
                have hc5 : (frmE ((l.getD i (⟨none, 0, []⟩ : Bs)).l)) = 0 := of_decide_eq_true (bnot_false hc5)
                have hE9 : frmE (l.getD i ⟨none, 0, []⟩).l = 0 := by omega
                refine At.skip ?_
                refine At.seq ?_
                refine At.region ?_
                refine AtL.move (.inl rfl) rfl rfl ?_
                refine AtL.move (.inl rfl) rfl rfl ?_
                refine AtL.append (l := b.l) (news := frmL ((l.getD i (⟨none, 0, []⟩ : Bs)).l)) 1 tf_el22 rfl b.own (o5.rd (i := 0) rfl) (by first | omega | (simp only [List.length_append, List.length_cons, List.length_nil]; omega) | (simp; done) | (simp; omega)) (.inl rfl) rfl rfl rfl ?_
                intro A7 C8 s9 o10
                refine AtL.assign (.inl rfl) rfl rfl ?_
                refine AtL.done ?_
                refine At.seq ?_
                refine At.seq ?_
                refine At.region ?_
                refine AtL.move (.inl rfl) rfl rfl ?_
                refine AtL.eqi (.inl rfl) rfl rfl rfl ?_
                refine AtL.move (.inl rfl) rfl rfl ?_
                refine AtL.split (t := 73) rfl ?_ ?_
                · intro hs73
                  have hs73 : (wt : Int) = 0 := of_decide_eq_true hs73
                  refine AtL.move (.inr ⟨_, _, _, rfl, rfl, rfl, rfl⟩) rfl rfl ?_
                  refine AtL.move (.inr ⟨_, _, _, rfl, rfl, rfl, rfl⟩) rfl rfl ?_
                  refine AtL.indexL i (Rd.skip 2 h) Tryd.underlying31 tf_sz22 (.inr ⟨_, _, _, rfl, rfl, rfl, rfl⟩) rfl rfl rfl rfl (by omega) ?_
                  refine AtL.load (v := .slice ((l.getD i (⟨none, 0, []⟩ : Bs)).A) ((l.getD i (⟨none, 0, []⟩ : Bs)).l).length ((l.getD i (⟨none, 0, []⟩ : Bs)).C)) tf_flat22 (.inr ⟨_, _, _, rfl, rfl, rfl, rfl⟩) rfl rfl (Rd.cell0 (Rd.skip 2 h) (getD_some (⟨none, 0, []⟩ : Bs) (by omega)) rfl) ?_
                  refine AtL.lenL Tryd.underlying22 (.inr ⟨_, _, _, rfl, rfl, rfl, rfl⟩) rfl rfl ?_
                  refine AtL.move (.inr ⟨_, _, _, rfl, rfl, rfl, rfl⟩) rfl rfl ?_
                  refine AtL.gtr (.inr ⟨_, _, _, rfl, rfl, rfl, rfl⟩) rfl rfl rfl ?_
                  refine AtL.pickT (.inl rfl) rfl rfl rfl ?_
                  refine AtL.done ?_
                  refine At.cond rfl ?_ ?_
                  · intro hc6
                    have hc6 : m < (((l.getD i (⟨none, 0, []⟩ : Bs)).l).length : Int) := of_decide_eq_true hc6
                    refine At.region ?_
                    refine AtL.assign (.inl rfl) rfl rfl ?_
                    refine AtL.done ?_
                    refine At.seq ?_
                    refine At.region ?_
                    refine AtL.move (.inl rfl) rfl rfl ?_
                    refine AtL.eqi (.inl rfl) rfl rfl rfl ?_
                    refine AtL.done ?_
                    refine At.condF rfl ?_
                    refine At.skip ?_
                    refine At.inBlock ?_
                    refine At.region ?_
                    refine AtL.move (.inl rfl) rfl rfl ?_
                    refine AtL.add (z := (i : Int) + 1) (.inl rfl) rfl rfl rfl (w64 (by omega) (by omega)) ?_
                    refine AtL.assign (.inl rfl) rfl rfl ?_
                    refine AtL.done ?_
                    refine At.pick (H' := s9 :: H) [1] 2 rfl rfl ?_
                    refine ihL1 (i + 1) n 3 (⟨A7, C8, b.l ++ (frmL ((l.getD i (⟨none, 0, []⟩ : Bs)).l)), s9, o10⟩) (⟨fun h9 => absurd h9 (by omega), fun _ => ⟨rfl, by omega, by dsimp only; have h8 := (hW0 (by omega)).2.long hE9 (by omega); rw [(hW0 (by omega)).1]; exact h8⟩, by omega, by dsimp only; simp only [List.length_append]; omega, fun _ => by omega⟩) (by omega) _ ?_
                    exact ⟨rfl, rfl, rfl, rfl, (by first | rfl | exact slLen (by simp []) | exact intEq (by omega) | exact intEq (by simp []) | exact slLen (by simp []; omega)), (by first | rfl | exact slLen (by simp []) | exact intEq (by omega) | exact intEq (by simp []) | exact slLen (by simp []; omega)), (by first | rfl | exact slLen (by simp []) | exact intEq (by omega) | exact intEq (by simp []) | exact slLen (by simp []; omega)), (by first | rfl | exact slLen (by simp []) | exact intEq (by omega) | exact intEq (by simp []) | exact slLen (by simp []; omega)), trivial⟩
                  · intro hc6
                    have hc6 : ¬ (m < (((l.getD i (⟨none, 0, []⟩ : Bs)).l).length : Int)) := of_decide_eq_false hc6
                    refine At.skip ?_
                    refine At.seq ?_
                    refine At.region ?_
                    refine AtL.move (.inl rfl) rfl rfl ?_
                    refine AtL.eqi (.inl rfl) rfl rfl rfl ?_
                    refine AtL.done ?_
                    refine At.cond rfl ?_ ?_
                    · intro hc7
                      have hc7 : (wt : Int) = 0 := of_decide_eq_true hc7
                      refine At.region ?_
                      refine AtL.move (.inl rfl) rfl rfl ?_
                      refine AtL.add (z := (n : Int) + 1) (.inl rfl) rfl rfl rfl (w64 (by omega) (by omega)) ?_
                      refine AtL.assign (.inl rfl) rfl rfl ?_
                      refine AtL.done ?_
                      refine At.inBlock ?_
                      refine At.region ?_
                      refine AtL.move (.inl rfl) rfl rfl ?_
                      refine AtL.add (z := (i : Int) + 1) (.inl rfl) rfl rfl rfl (w64 (by omega) (by omega)) ?_
                      refine AtL.assign (.inl rfl) rfl rfl ?_
                      refine AtL.done ?_
                      refine At.pick (H' := s9 :: H) [1] 2 rfl rfl ?_
                      refine ihL1 (i + 1) (n + 1) wt (⟨A7, C8, b.l ++ (frmL ((l.getD i (⟨none, 0, []⟩ : Bs)).l)), s9, o10⟩) (⟨fun _ => ⟨by rw [(hW0 hc7).1], by dsimp only; have h8 := (hW0 hc7).2.step hE9 (by omega); rw [List.take_succ_eq_append_getElem (by simp; omega)]; simpa [List.getD, show i < l.length by omega] using h8⟩, fun h9 => absurd hc7 h9, by omega, by dsimp only; simp only [List.length_append]; omega, fun _ => by omega⟩) (by omega) _ ?_
                      exact ⟨rfl, rfl, rfl, rfl, (by first | rfl | exact slLen (by simp []) | exact intEq (by omega) | exact intEq (by simp []) | exact slLen (by simp []; omega)), (by first | rfl | exact slLen (by simp []) | exact intEq (by omega) | exact intEq (by simp []) | exact slLen (by simp []; omega)), (by first | rfl | exact slLen (by simp []) | exact intEq (by omega) | exact intEq (by simp []) | exact slLen (by simp []; omega)), (by first | rfl | exact slLen (by simp []) | exact intEq (by omega) | exact intEq (by simp []) | exact slLen (by simp []; omega)), trivial⟩
                    · intro hc7
                      have hc7 : ¬ ((wt : Int) = 0) := of_decide_eq_false hc7
                      refine At.skip ?_
                      refine At.inBlock ?_
                      refine At.region ?_
                      refine AtL.move (.inl rfl) rfl rfl ?_
                      refine AtL.add (z := (i : Int) + 1) (.inl rfl) rfl rfl rfl (w64 (by omega) (by omega)) ?_
                      refine AtL.assign (.inl rfl) rfl rfl ?_
                      refine AtL.done ?_
                      refine At.pick (H' := s9 :: H) [1] 2 rfl rfl ?_
                      refine ihL1 (i + 1) n wt (⟨A7, C8, b.l ++ (frmL ((l.getD i (⟨none, 0, []⟩ : Bs)).l)), s9, o10⟩) (⟨fun h9 => absurd h9 hc7, fun h9 => ⟨(hW3 h9).1, by have := (hW3 h9).2.1; omega, by dsimp only; exact (hW3 h9).2.2.step⟩, by omega, by dsimp only; simp only [List.length_append]; omega, fun _ => by omega⟩) (by omega) _ ?_
                      exact ⟨rfl, rfl, rfl, rfl, (by first | rfl | exact slLen (by simp []) | exact intEq (by omega) | exact intEq (by simp []) | exact slLen (by simp []; omega)), (by first | rfl | exact slLen (by simp []) | exact intEq (by omega) | exact intEq (by simp []) | exact slLen (by simp []; omega)), (by first | rfl | exact slLen (by simp []) | exact intEq (by omega) | exact intEq (by simp []) | exact slLen (by simp []; omega)), (by first | rfl | exact slLen (by simp []) | exact intEq (by omega) | exact intEq (by simp []) | exact slLen (by simp []; omega)), trivial⟩
                · intro hs73
                  have hs73 : ¬ ((wt : Int) = 0) := of_decide_eq_false hs73
                  refine AtL.skipped rfl rfl rfl rfl rfl rfl ?_
                  refine AtL.skipped rfl rfl rfl rfl rfl rfl ?_
                  refine AtL.skipped rfl rfl rfl rfl rfl rfl ?_
                  refine AtL.skipped rfl rfl rfl rfl rfl rfl ?_
                  refine AtL.skipped rfl rfl rfl rfl rfl rfl ?_
                  refine AtL.skipped rfl rfl rfl rfl rfl rfl ?_
                  refine AtL.skipped rfl rfl rfl rfl rfl rfl ?_
                  refine AtL.pickF (.inl rfl) rfl rfl rfl ?_
                  refine AtL.done ?_
                  refine At.condF rfl ?_
                  refine At.skip ?_
                  refine At.seq ?_
                  refine At.region ?_
                  refine AtL.move (.inl rfl) rfl rfl ?_
                  refine AtL.eqi (.inl rfl) rfl rfl rfl ?_
                  refine AtL.done ?_
                  refine At.cond rfl ?_ ?_
                  · intro hc7
                    have hc7 : (wt : Int) = 0 := of_decide_eq_true hc7
                    refine At.region ?_
                    refine AtL.move (.inl rfl) rfl rfl ?_
                    refine AtL.add (z := (n : Int) + 1) (.inl rfl) rfl rfl rfl (w64 (by omega) (by omega)) ?_
                    refine AtL.assign (.inl rfl) rfl rfl ?_
                    refine AtL.done ?_
                    refine At.inBlock ?_
                    refine At.region ?_
                    refine AtL.move (.inl rfl) rfl rfl ?_
                    refine AtL.add (z := (i : Int) + 1) (.inl rfl) rfl rfl rfl (w64 (by omega) (by omega)) ?_
                    refine AtL.assign (.inl rfl) rfl rfl ?_
                    refine AtL.done ?_
                    refine At.pick (H' := s9 :: H) [1] 2 rfl rfl ?_
                    refine ihL1 (i + 1) (n + 1) wt (⟨A7, C8, b.l ++ (frmL ((l.getD i (⟨none, 0, []⟩ : Bs)).l)), s9, o10⟩) (⟨fun _ => ⟨by rw [(hW0 hc7).1], by dsimp only; have h8 := (hW0 hc7).2.step hE9 (by omega); rw [List.take_succ_eq_append_getElem (by simp; omega)]; simpa [List.getD, show i < l.length by omega] using h8⟩, fun h9 => absurd hc7 h9, by omega, by dsimp only; simp only [List.length_append]; omega, fun _ => by omega⟩) (by omega) _ ?_
                    exact ⟨rfl, rfl, rfl, rfl, (by first | rfl | exact slLen (by simp []) | exact intEq (by omega) | exact intEq (by simp []) | exact slLen (by simp []; omega)), (by first | rfl | exact slLen (by simp []) | exact intEq (by omega) | exact intEq (by simp []) | exact slLen (by simp []; omega)), (by first | rfl | exact slLen (by simp []) | exact intEq (by omega) | exact intEq (by simp []) | exact slLen (by simp []; omega)), (by first | rfl | exact slLen (by simp []) | exact intEq (by omega) | exact intEq (by simp []) | exact slLen (by simp []; omega)), trivial⟩
                  · intro hc7
                    have hc7 : ¬ ((wt : Int) = 0) := of_decide_eq_false hc7
                    refine At.skip ?_
                    refine At.inBlock ?_
                    refine At.region ?_
                    refine AtL.move (.inl rfl) rfl rfl ?_
                    refine AtL.add (z := (i : Int) + 1) (.inl rfl) rfl rfl rfl (w64 (by omega) (by omega)) ?_
                    refine AtL.assign (.inl rfl) rfl rfl ?_
                    refine AtL.done ?_
                    refine At.pick (H' := s9 :: H) [1] 2 rfl rfl ?_
                    refine ihL1 (i + 1) n wt (⟨A7, C8, b.l ++ (frmL ((l.getD i (⟨none, 0, []⟩ : Bs)).l)), s9, o10⟩) (⟨fun h9 => absurd h9 hc7, fun h9 => ⟨(hW3 h9).1, by have := (hW3 h9).2.1; omega, by dsimp only; exact (hW3 h9).2.2.step⟩, by omega, by dsimp only; simp only [List.length_append]; omega, fun _ => by omega⟩) (by omega) _ ?_
                    exact ⟨rfl, rfl, rfl, rfl, (by first | rfl | exact slLen (by simp []) | exact intEq (by omega) | exact intEq (by simp []) | exact slLen (by simp []; omega)), (by first | rfl | exact slLen (by simp []) | exact intEq (by omega) | exact intEq (by simp []) | exact slLen (by simp []; omega)), (by first | rfl | exact slLen (by simp []) | exact intEq (by omega) | exact intEq (by simp []) | exact slLen (by simp []; omega)), (by first | rfl | exact slLen (by simp []) | exact intEq (by omega) | exact intEq (by simp []) | exact slLen (by simp []; omega)), trivial⟩
          · intro hc2
            have hc2 : ¬ ((i : Int) < (l.length : Int)) := of_decide_eq_false hc2
            have hnn : n ≤ l.length := by rcases Classical.em (wt = 0) with h9 | h9; exact (hW0 h9).1 ▸ hi; have := (hW3 h9).2.1; omega
            have hfin : frF m b.l = ⟨(l.map (·.l)).take n, wt, []⟩ := by
              rcases Classical.em (wt = 0) with h9 | h9
              · rw [(hW0 h9).2.end_, (hW0 h9).1, h9]
              · rw [(hW3 h9).2.2.end_, (hW3 h9).1]
            have hsb : (subl l 0 n).map (·.l) = (l.map (·.l)).take n := by rw [subl_to, List.map_take]
            refine At.exit rfl ?_
            refine At.seq ?_
            refine At.region ?_
            refine AtL.move (.inl rfl) rfl rfl ?_
            refine AtL.move (.inl rfl) rfl rfl ?_
            refine AtL.move (.inl rfl) rfl rfl ?_
            refine AtL.call tf_body17 (.inl rfl) rfl rfl (cut_ok (l := b.l) (ns := ns) (b.own.rd (i := 0) rfl) (Rd.skip 1 h2) (by first | omega | (simp only [List.length_append, List.length_cons, List.length_nil]; omega) | (simp; done) | (simp; omega)) (by omega)) ?_
            rintro _ _ ⟨⟨A11, C12, l13, s14, o15⟩, hm16, he17, rfl, rfl⟩
            obtain ⟨hf18, hk19⟩ := cut_facts (x := l13) hm16
            refine AtL.call tf_body16 (.inl rfl) rfl rfl (by have h9 := pushed_ok (w0 := w0) (base := base) (H := s14 :: b.s :: H) m (by omega) (l := l13) (o15.rd (i := 0) rfl) (fun x hx => Rd.pick [1] 2 rfl rfl (he17 x hx)) (by rw [hf18]; first | omega | (simp only [List.length_append]; omega)) (by omega); rw [hf18] at h9; exact h9) ?_
            rintro _ _ ⟨⟨A20, C21, l22, s23, o24⟩, ys25, h26, h27, rfl, rfl⟩
            dsimp only at h26
            have hm28 : l22.map (·.l) = (frF m b.l).out := by rw [h26, List.map_map]; exact h27
            refine AtL.move (.inl rfl) rfl rfl ?_
            refine AtL.extract (.inl rfl) rfl rfl rfl ?_
            refine AtL.extract (.inl rfl) rfl rfl rfl ?_
            refine AtL.extract (.inl rfl) rfl rfl rfl ?_
            refine AtL.assign (.inl rfl) rfl rfl ?_
            refine AtL.assign (.inl rfl) rfl rfl ?_
            refine AtL.assign (.inl rfl) rfl rfl ?_
            refine AtL.done ?_
            refine At.seq ?_
            refine At.region ?_
            refine AtL.move (.inl rfl) rfl rfl ?_
            refine AtL.move (.inl rfl) rfl rfl ?_
            refine AtL.move (.inr ⟨_, _, _, rfl, rfl, rfl, rfl⟩) rfl rfl ?_
            refine AtL.pickT (.inl rfl) rfl rfl rfl ?_
            refine AtL.move (.inl rfl) rfl rfl ?_
            refine AtL.move (.inr ⟨_, _, _, rfl, rfl, rfl, rfl⟩) rfl rfl ?_
            refine AtL.move (.inr ⟨_, _, _, rfl, rfl, rfl, rfl⟩) rfl rfl ?_
            refine AtL.eqi (.inr ⟨_, _, _, rfl, rfl, rfl, rfl⟩) rfl rfl rfl ?_
            refine AtL.pickT (.inl rfl) rfl rfl rfl ?_
            refine AtL.move (.inl rfl) rfl rfl ?_
            refine AtL.split (t := 104) rfl ?_ ?_
            · intro hs104
              have hs104 : ((frF m b.l).e : Int) = wt := of_decide_eq_true hs104
              refine AtL.move (.inr ⟨_, _, _, rfl, rfl, rfl, rfl⟩) rfl rfl ?_
              refine AtL.move (.inr ⟨_, _, _, rfl, rfl, rfl, rfl⟩) rfl rfl ?_
              refine AtL.move (.inr ⟨_, _, _, rfl, rfl, rfl, rfl⟩) rfl rfl ?_
              have hleo31 := Rd.le h
              obtain ⟨A29, eA29⟩ : ∃ A29 : Option Addr, A29 = (if C = 0 then A else Option.map (fun a => a.add (0 * tyL.sz)) A) := ⟨_, rfl⟩
              obtain ⟨C30, eC30⟩ : ∃ C30 : Nat, C30 = C - 0 := ⟨_, rfl⟩
              have o31 : Rd tyL w0 base (H) A29 C30 (subl l 0 n) := by rw [eA29, eC30]; exact Rd.cut h (by omega) (by omega) (by omega) (by omega)
              refine AtL.ofIs (Do.sliceX_ (T := tyL) (l := l) 0 n C rfl (evBound_some rfl rfl) rfl (by intro h; cases h) (by omega) (by omega) (Nat.le_refl _) Tryd.underlying31 tf_sz22 rfl eA29 (subl_len (l := l) (i := 0) (j := n) (by omega)) eC30) (.inr ⟨_, _, _, rfl, rfl, rfl, rfl⟩) rfl ?_
              have hlo31 : (subl l 0 n).length = n - 0 := subl_len (by omega)
              refine AtL.call tf_body18 (.inr ⟨_, _, _, rfl, rfl, rfl, rfl⟩) rfl rfl (slists_ok (a := l22) (b := subl l 0 n) (o24.rd (i := 0) rfl) (fun x hx => Rd.pick [1] 4 rfl rfl ((Sl.rdV (H := segsOf ys25 :: H) h26 (i := 0) rfl) x hx)) (Rd.skip 4 o31) (fun x hx => Rd.skip 4 ((el_subl he) x hx))) ?_
              rintro _ _ ⟨rfl, rfl⟩
              refine AtL.pickT (.inl rfl) rfl rfl rfl ?_
              refine AtL.assign (.inl rfl) rfl rfl ?_
              refine AtL.done ?_
              refine At.pick (H' := H) [] 4 rfl rfl ?_
              exact At.ret Tryd.func4 rfl rfl (⟨congrArg Value.bool (show (decide (l22.map (·.l) = (subl l 0 n).map (·.l))) = true by simp [hm28, hfin, hsb]), rfl⟩)
            · intro hs104
              have hs104 : ¬ (((frF m b.l).e : Int) = wt) := of_decide_eq_false hs104
              exfalso; revert hs104; simp [hm28, hfin, hsb]

end Go.Proofs.YtllfgcekebafhaaDoor
