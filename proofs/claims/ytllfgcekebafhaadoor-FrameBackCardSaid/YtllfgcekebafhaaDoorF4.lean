/- Push of a reader. -/
import Derived.Test.YtllfgcekebafhaaDoorF3
namespace Go.Proofs.YtllfgcekebafhaaDoor
set_option linter.unusedVariables false
set_option linter.unusedSimpArgs false
set_option maxRecDepth 100000

set_option maxHeartbeats 400000 in
theorem whole_ok {w0 : World} {base : Nat} {H : List Seg} {b : Nat} :
    SCalls Tryd.prog 33 [.pointer (some ⟨b, 0, none⟩)] w0 base (H) (fun v H' => ∃ vr : Nat, v = .func (.func 39) #[] #[.pointer (some ⟨vr, 0, none⟩)] ∧ H' = [(vr, .cells #[.pointer (some ⟨b, 0, none⟩)] 39 (0, 0))] :: H) := by
  refine SCalls.of_walk (n := 4) Tryd.func33 rfl rfl rfl fun cs => ?_
  refine At.seq ?_
  refine At.region ?_
  refine AtL.box (cs := #[.pointer (some ⟨b, 0, none⟩)]) rfl (.inl rfl) rfl rfl ?_
  intro b1
  refine AtL.assign (.inl rfl) rfl rfl ?_
  refine AtL.done ?_
  refine At.seq ?_
  refine At.region ?_
  refine AtL.makeFunc (.inl rfl) rfl rfl rfl ?_
  refine AtL.assign (.inl rfl) rfl rfl ?_
  refine AtL.done ?_
  exact At.ret Tryd.func33 rfl rfl (⟨_, rfl, rfl⟩)

theorem size2_ok {w0 : World} {base : Nat} {H : List Seg} {b : Nat} {y : Sl tyB 5} {m e lr : Int} {br : Bool} {off : Nat} (hl : y.l.length ≤ 500000000) (ho : off ≤ y.l.length) :
    SCalls Tryd.prog 36 [.pointer (some ⟨b, 0, none⟩)] w0 base (y.s :: [(b, .cells #[.int .i64 m, .bool br, .slice y.A y.l.length y.C, .int .i64 (off : Int), .int .i8 lr, .int .i64 e] 56 (0, 0))] :: H) (fun v H' => ∃ (n : Nat) (z : Bool), (z = true → n = szF (y.l.drop off) ∧ 2 ≤ (y.l.drop off).length) ∧ (z = false → (y.l.drop off).length < 2) ∧ v = .tuple #[int (n : Int), .bool z] ∧ H' = y.s :: [(b, .cells #[.int .i64 m, .bool br, .slice y.A y.l.length y.C, .int .i64 (off : Int), .int .i8 lr, .int .i64 e] 56 (0, 0))] :: H) := by
  refine (size_ok hl ho).mono fun v H' h => ?_
  by_cases h2 : 2 ≤ (y.l.drop off).length
  · rw [if_pos h2, if_pos h2] at h
    exact ⟨_, true, fun _ => ⟨rfl, h2⟩, (fun h => by cases h), h⟩
  · rw [if_neg h2, if_neg h2] at h
    exact ⟨0, false, (fun h => by cases h), fun _ => by omega, h⟩
theorem subl_cut (l : List UInt8) (off n : Nat) : subl l (off + 2) (off + 2 + n) = subl (l.drop off) 2 (2 + n) := by
  simp only [subl, List.drop_drop]
  congr 1
  omega

set_option maxHeartbeats 1000000 in
theorem wholeit_ok {w0 : World} {base : Nat} {T Hc : List Seg} {lp b vr off : Nat} {y : Sl tyB 5} {m lr : Int} {J : List UInt8 → List Seg → Prop} (hl : y.l.length ≤ 400000000) (ho : off ≤ y.l.length) (hm : 12 ≤ m ∧ m ≤ 65535)
    (hY : ∀ c Hc, (frS m c).n ≠ 0 → J c Hc → ∀ (z : Sl tyB 5), z.l = subl c 2 (2 + (frS m c).n) → ∀ T', YCalls Tryd.prog lp [.slice z.A z.l.length z.C] w0 base (z.s :: (Hc ++ T')) (fun v H' => v = .bool true ∧ ∃ Hc', H' = Hc' ++ T' ∧ J (c.drop (2 + (frS m c).n)) Hc'))
    (h0 : J (y.l.drop off) Hc) :
    SCalls Tryd.prog 39 [.func (.yield lp) #[] #[], .pointer (some ⟨vr, 0, none⟩)] w0 base ([(vr, .cells #[.pointer (some ⟨b, 0, none⟩)] 39 (0, 0))] :: y.s :: [(b, .cells #[.int .i64 m, .bool false, .slice y.A y.l.length y.C, .int .i64 (off : Int), .int .i8 lr, .int .i64 0] 56 (0, 0))] :: (Hc ++ T)) (fun v H' => ∃ (off' : Nat) (lr' : Int) (Hc' : List Seg), off' ≤ y.l.length ∧ (frS m (y.l.drop off')).n = 0 ∧ J (y.l.drop off') Hc' ∧ v = .tuple #[] ∧ H' = [(vr, .cells #[.pointer (some ⟨b, 0, none⟩)] 39 (0, 0))] :: y.s :: [(b, .cells #[.int .i64 m, .bool false, .slice y.A y.l.length y.C, .int .i64 (off' : Int), .int .i8 lr', .int .i64 ((frS m (y.l.drop off')).e)] 56 (0, 0))] :: (Hc' ++ T)) := by
  refine SCalls.of_walk (n := 49) Tryd.func39 rfl rfl rfl fun cs => ?_
  refine At.block ?_
  refine At.loop3 (fun (off : Nat) (lr : Int) (Hc2 : List Seg) => [(0, .func (.yield lp) #[] #[]), (1, .pointer (some ⟨vr, 0, none⟩))]) (fun (off : Nat) (lr : Int) (Hc2 : List Seg) => [(vr, .cells #[.pointer (some ⟨b, 0, none⟩)] 39 (0, 0))] :: y.s :: [(b, .cells #[.int .i64 m, .bool false, .slice y.A y.l.length y.C, .int .i64 (off : Int), .int .i8 lr, .int .i64 0] 56 (0, 0))] :: (Hc2 ++ T)) (fun (off : Nat) (lr : Int) (Hc2 : List Seg) => J (y.l.drop off) Hc2 ∧ off ≤ y.l.length) (fun (off : Nat) (lr : Int) (Hc2 : List Seg) => y.l.length - off) off lr Hc (⟨h0, ho⟩) ⟨rfl, rfl, trivial⟩ rfl ?_
  rintro off lr Hc2 ⟨hJ, hoff⟩ ihL1
  have hszl := szF_le (y.l.drop off)
  have hld := List.length_drop (l := y.l) (i := off)
  refine At.block ?_
  refine At.seq ?_
  refine At.region ?_
  refine AtL.load tf_flat39 (.inl rfl) rfl rfl (Cell.own 0 0 rfl rfl rfl) ?_
  refine AtL.pick (H' := y.s :: [(b, .cells #[.int .i64 m, .bool false, .slice y.A y.l.length y.C, .int .i64 (off : Int), .int .i8 lr, .int .i64 0] 56 (0, 0))] :: [(vr, .cells #[.pointer (some ⟨b, 0, none⟩)] 39 (0, 0))] :: (Hc2 ++ T)) [1, 2, 0] 3 rfl rfl ?_
  refine AtL.call tf_body36 (.inl rfl) rfl rfl (size2_ok (y := y) (off := off) (by first | omega | (dsimp only; omega)) (by first | omega | (dsimp only; omega))) ?_
  rintro _ _ ⟨n1, z2, h3, h4, rfl, rfl⟩
  have hs1 := h3
  have hs2 := h4
  refine AtL.move (.inl rfl) rfl rfl ?_
  refine AtL.extract (.inl rfl) rfl rfl rfl ?_
  refine AtL.extract (.inl rfl) rfl rfl rfl ?_
  refine AtL.assign (.inl rfl) rfl rfl ?_
  refine AtL.assign (.inl rfl) rfl rfl ?_
  refine AtL.done ?_
  refine At.seq ?_
  refine At.seq ?_
  refine At.region ?_
  refine AtL.move (.inl rfl) rfl rfl ?_
  refine AtL.not (.inl rfl) rfl rfl ?_
  refine AtL.done ?_
  refine At.cond rfl ?_ ?_
  · intro hc1
    have hc1 : z2 = false := bnot_true hc1
    refine At.pick (H' := [(vr, .cells #[.pointer (some ⟨b, 0, none⟩)] 39 (0, 0))] :: y.s :: [(b, .cells #[.int .i64 m, .bool false, .slice y.A y.l.length y.C, .int .i64 (off : Int), .int .i8 lr, .int .i64 0] 56 (0, 0))] :: (Hc2 ++ T)) [2, 0, 1] 3 rfl rfl ?_
    have hS : frS m (y.l.drop off) = ⟨0, 0⟩ := by rw [frS, if_pos (hs2 hc1)]
    exact At.ret Tryd.func39 rfl rfl (⟨off, lr, Hc2, hoff, by rw [hS], hJ, rfl, by rw [hS]⟩)
  · intro hc1
    have hc1 : z2 = true := bnot_false hc1
    obtain ⟨hn9, h2⟩ := hs1 hc1
    subst hn9
    refine At.skip ?_
    refine At.seq ?_
    refine At.block ?_
    refine At.seq ?_
    refine At.region ?_
    refine AtL.move (.inl rfl) rfl rfl ?_
    refine AtL.lss (.inl rfl) rfl rfl rfl ?_
    refine AtL.assign (.inl rfl) rfl rfl ?_
    refine AtL.done ?_
    refine At.cond rfl ?_ ?_
    · intro hc2
      have hc2 : (szF (y.l.drop off) : Int) < 12 := of_decide_eq_true hc2
      refine At.seq ?_
      refine At.region ?_
      refine AtL.load tf_flat39 (.inl rfl) rfl rfl (Cell.own 2 0 rfl rfl rfl) ?_
      refine AtL.nilCheck (.inl rfl) rfl rfl ?_
      refine AtL.fieldAddrB tf_fo56_3 (.inl rfl) rfl rfl rfl ?_
      refine AtL.store (H' := y.s :: [(b, .cells #[.int .i64 m, .bool false, .slice y.A y.l.length y.C, .int .i64 (off : Int), .int .i8 lr, .int .i64 4] 56 (0, 0))] :: [(vr, .cells #[.pointer (some ⟨b, 0, none⟩)] 39 (0, 0))] :: (Hc2 ++ T)) 1 0 tf_sz25 (.inl rfl) rfl rfl rfl rfl rfl rfl rfl rfl rfl ?_
      refine AtL.done ?_
      refine At.pick (H' := [(vr, .cells #[.pointer (some ⟨b, 0, none⟩)] 39 (0, 0))] :: y.s :: [(b, .cells #[.int .i64 m, .bool false, .slice y.A y.l.length y.C, .int .i64 (off : Int), .int .i8 lr, .int .i64 4] 56 (0, 0))] :: (Hc2 ++ T)) [2, 0, 1] 3 rfl rfl ?_
      have hS : frS m (y.l.drop off) = ⟨4, 0⟩ := by rw [frS, if_neg (by omega), if_pos (by omega)]
      exact At.ret Tryd.func39 rfl rfl (⟨off, lr, Hc2, hoff, by rw [hS], hJ, rfl, by rw [hS]⟩)
    · intro hc2
      have hc2 : ¬ ((szF (y.l.drop off) : Int) < 12) := of_decide_eq_false hc2
      refine At.seq ?_
      refine At.region ?_
      refine AtL.move (.inl rfl) rfl rfl ?_
      refine AtL.load tf_flat39 (.inl rfl) rfl rfl (Cell.own 2 0 rfl rfl rfl) ?_
      refine AtL.nilCheck (.inl rfl) rfl rfl ?_
      refine AtL.fieldAddrB tf_fo56_0 (.inl rfl) rfl rfl rfl ?_
      refine AtL.load tf_flat3 (.inl rfl) rfl rfl (Cell.own 1 0 rfl rfl rfl) ?_
      refine AtL.gtr (.inl rfl) rfl rfl rfl ?_
      refine AtL.assign (.inl rfl) rfl rfl ?_
      refine AtL.done ?_
      refine At.cond rfl ?_ ?_
      · intro hc3
        have hc3 : m < (szF (y.l.drop off) : Int) := of_decide_eq_true hc3
        refine At.seq ?_
        refine At.region ?_
        refine AtL.load tf_flat39 (.inl rfl) rfl rfl (Cell.own 2 0 rfl rfl rfl) ?_
        refine AtL.nilCheck (.inl rfl) rfl rfl ?_
        refine AtL.fieldAddrB tf_fo56_3 (.inl rfl) rfl rfl rfl ?_
        refine AtL.store (H' := y.s :: [(b, .cells #[.int .i64 m, .bool false, .slice y.A y.l.length y.C, .int .i64 (off : Int), .int .i8 lr, .int .i64 3] 56 (0, 0))] :: [(vr, .cells #[.pointer (some ⟨b, 0, none⟩)] 39 (0, 0))] :: (Hc2 ++ T)) 1 0 tf_sz25 (.inl rfl) rfl rfl rfl rfl rfl rfl rfl rfl rfl ?_
        refine AtL.done ?_
        refine At.pick (H' := [(vr, .cells #[.pointer (some ⟨b, 0, none⟩)] 39 (0, 0))] :: y.s :: [(b, .cells #[.int .i64 m, .bool false, .slice y.A y.l.length y.C, .int .i64 (off : Int), .int .i8 lr, .int .i64 3] 56 (0, 0))] :: (Hc2 ++ T)) [2, 0, 1] 3 rfl rfl ?_
        have hS : frS m (y.l.drop off) = ⟨3, 0⟩ := by rw [frS, if_neg (by omega), if_neg (by omega), if_pos (by omega)]
        exact At.ret Tryd.func39 rfl rfl (⟨off, lr, Hc2, hoff, by rw [hS], hJ, rfl, by rw [hS]⟩)
      · intro hc3
        have hc3 : ¬ (m < (szF (y.l.drop off) : Int)) := of_decide_eq_false hc3
        refine At.seq ?_
        refine At.region ?_
        refine AtL.load tf_flat39 (.inl rfl) rfl rfl (Cell.own 2 0 rfl rfl rfl) ?_
        refine AtL.nilCheck (.inl rfl) rfl rfl ?_
        refine AtL.fieldAddrB tf_fo56_2 (.inl rfl) rfl rfl rfl ?_
        refine AtL.call tf_body35 (.inl rfl) rfl rfl (blen_ok (y := y) (off := off) (by omega) (by omega)) ?_
        rintro _ _ ⟨rfl, rfl⟩
        refine AtL.move (.inl rfl) rfl rfl ?_
        refine AtL.add (z := (szF (y.l.drop off) : Int) + 2) (.inl rfl) rfl rfl rfl (w64 (by omega) (by omega)) ?_
        refine AtL.lss (.inl rfl) rfl rfl rfl ?_
        refine AtL.assign (.inl rfl) rfl rfl ?_
        refine AtL.done ?_
        refine At.cond rfl ?_ ?_
        · intro hc4
          have hc4 : ((y.l.length - off : Nat) : Int) < ((szF (y.l.drop off) : Int) + 2) := of_decide_eq_true hc4
          refine At.pick (H' := [(vr, .cells #[.pointer (some ⟨b, 0, none⟩)] 39 (0, 0))] :: y.s :: [(b, .cells #[.int .i64 m, .bool false, .slice y.A y.l.length y.C, .int .i64 (off : Int), .int .i8 lr, .int .i64 0] 56 (0, 0))] :: (Hc2 ++ T)) [2, 0, 1] 3 rfl rfl ?_
          have hS : frS m (y.l.drop off) = ⟨0, 0⟩ := by rw [frS, if_neg (by omega), if_neg (by omega), if_neg (by omega), if_pos (by omega)]
          exact At.ret Tryd.func39 rfl rfl (⟨off, lr, Hc2, hoff, by rw [hS], hJ, rfl, by rw [hS]⟩)
        · intro hc4
          have hc4 : ¬ (((y.l.length - off : Nat) : Int) < ((szF (y.l.drop off) : Int) + 2)) := of_decide_eq_false hc4
          have hS : frS m (y.l.drop off) = ⟨0, szF (y.l.drop off)⟩ := by rw [frS, if_neg (by omega), if_neg (by omega), if_neg (by omega), if_neg (by omega)]
          refine At.skip ?_
          refine At.inBlock ?_
          refine At.seq ?_
          refine At.region ?_
          refine AtL.load tf_flat39 (.inl rfl) rfl rfl (Cell.own 2 0 rfl rfl rfl) ?_
          refine AtL.nilCheck (.inl rfl) rfl rfl ?_
          refine AtL.fieldAddrB tf_fo56_2 (.inl rfl) rfl rfl rfl ?_
          refine AtL.call tf_body40 (.inl rfl) rfl rfl (bnext_ok (y := y) (off := off) 2 (by first | omega | (dsimp only; omega)) (by first | omega | (dsimp only; omega))) ?_
          rintro _ _ ⟨A5, C6, lr8, o7, rfl, rfl⟩
          refine AtL.done ?_
          refine At.seq ?_
          refine At.region ?_
          refine AtL.move (.inl rfl) rfl rfl ?_
          refine AtL.load tf_flat39 (.inl rfl) rfl rfl (Cell.own 2 0 rfl rfl rfl) ?_
          refine AtL.nilCheck (.inl rfl) rfl rfl ?_
          refine AtL.fieldAddrB tf_fo56_2 (.inl rfl) rfl rfl rfl ?_
          refine AtL.move (.inl rfl) rfl rfl ?_
          refine AtL.call tf_body40 (.inl rfl) rfl rfl (bnext_ok (y := y) (off := off + 2) (szF (y.l.drop off)) (by first | omega | (dsimp only; omega)) (by first | omega | (dsimp only; omega))) ?_
          rintro _ _ ⟨A9, C10, lr12, o11, rfl, rfl⟩
          refine AtL.call tf_body41 (.inl rfl) rfl rfl (bclone_ok (l := subl y.l (off + 2) ((off + 2) + (szF (y.l.drop off)))) (o11.rd (i := 0) rfl) (by have h9 := subl_len (l := y.l) (i := off + 2) (j := off + 2 + szF (y.l.drop off)) (by omega); omega)) ?_
          rintro _ _ ⟨⟨A13, C14, l15, s16, o17⟩, hx18, rfl, rfl⟩
          obtain rfl : subl y.l (off + 2) ((off + 2) + (szF (y.l.drop off))) = l15 := hx18.symm
          refine AtL.pick (H' := s16 :: [(vr, .cells #[.pointer (some ⟨b, 0, none⟩)] 39 (0, 0))] :: y.s :: [(b, .cells #[.int .i64 m, .bool false, .slice y.A y.l.length y.C, .int .i64 (((off : Int) + (2 : Int)) + (szF (y.l.drop off) : Int)), .int .i8 lr12, .int .i64 0] 56 (0, 0))] :: (Hc2 ++ T)) [0, 3, 1, 2] 4 rfl rfl ?_
          refine AtL.yield (.inl rfl) rfl rfl rfl (YCalls.perm ((perm3 ([(vr, .cells #[.pointer (some ⟨b, 0, none⟩)] 39 (0, 0))]) y.s ([(b, .cells #[.int .i64 m, .bool false, .slice y.A y.l.length y.C, .int .i64 (((off : Int) + (2 : Int)) + (szF (y.l.drop off) : Int)), .int .i8 lr12, .int .i64 0] 56 (0, 0))]) Hc2 T).cons s16) (hY (y.l.drop off) Hc2 (by rw [hS]; dsimp only; omega) hJ ⟨A13, C14, subl y.l (off + 2) ((off + 2) + (szF (y.l.drop off))), s16, o17⟩ (by rw [hS]; exact subl_cut _ _ _) ([(vr, .cells #[.pointer (some ⟨b, 0, none⟩)] 39 (0, 0))] :: y.s :: [(b, .cells #[.int .i64 m, .bool false, .slice y.A y.l.length y.C, .int .i64 (((off : Int) + (2 : Int)) + (szF (y.l.drop off) : Int)), .int .i8 lr12, .int .i64 0] 56 (0, 0))] :: T))) ?_
          rintro _ _ ⟨rfl, Hc3, rfl, hJ3⟩
          refine AtL.perm (perm3 _ _ _ Hc3 T).symm ?_
          refine AtL.not (.inl rfl) rfl rfl ?_
          refine AtL.done ?_
          refine At.condF rfl ?_
          refine At.skip ?_
          refine At.inBlock ?_
          rw [hS] at hJ3; dsimp only at hJ3; rw [List.drop_drop] at hJ3
          refine ihL1 ((off + 2) + (szF (y.l.drop off))) lr12 Hc3 (⟨by rw [show (off + 2) + (szF (y.l.drop off)) = off + (2 + szF (y.l.drop off)) by omega]; exact hJ3, by omega⟩) (by omega) _ ?_
          exact ⟨rfl, rfl, trivial⟩

set_option maxHeartbeats 1000000 in
theorem push_ok {w0 : World} {base : Nat} {H : List Seg} {b : Nat} {y : Sl tyB 5} {m lr e : Int} {br : Bool} {off : Nat} {A : Option Addr} {C : Nat} {l : List UInt8} (h : Rd tyB w0 base H A C l) (hl : y.l.length + l.length ≤ 300000000) (ho : off ≤ y.l.length) (hm : 12 ≤ m ∧ m ≤ 65535) (he : br = false → e = 0) :
    SCalls Tryd.prog 23 [.pointer (some ⟨b, 0, none⟩), .slice A l.length C] w0 base (y.s :: [(b, .cells #[.int .i64 m, .bool br, .slice y.A y.l.length y.C, .int .i64 (off : Int), .int .i8 lr, .int .i64 e] 56 (0, 0))] :: H) (fun v H' => ∃ (x : Sl tyL 22) (ys : List (Sl tyB 5)) (z : Sl tyB 5) (off' : Nat) (lr' : Int), x.l = ys.map Sl.v ∧ ys.map (·.l) = (frP br m (y.l.drop off) l).out ∧ off' ≤ z.l.length ∧ z.l.length ≤ y.l.length + l.length ∧ z.l.drop off' = (frP br m (y.l.drop off) l).rest ∧ v = .tuple #[.slice x.A x.l.length x.C, int (frP br m (y.l.drop off) l).e] ∧ H' = x.s :: segsOf ys :: z.s :: [(b, .cells #[.int .i64 m, .bool (frB br m (y.l.drop off) l), .slice z.A z.l.length z.C, .int .i64 (off' : Int), .int .i8 lr', .int .i64 (if br = true then e else (frF m (y.l.drop off ++ l)).e)] 56 (0, 0))] :: H) := by
  refine SCalls.of_walk (n := 45) Tryd.func23 rfl rfl rfl fun cs => ?_
  refine At.seq ?_
  refine At.region ?_
  refine AtL.assign (.inl rfl) rfl rfl ?_
  refine AtL.assign (.inl rfl) rfl rfl ?_
  refine AtL.done ?_
  refine At.seq ?_
  refine At.block ?_
  refine At.seq ?_
  refine At.region ?_
  refine AtL.move (.inl rfl) rfl rfl ?_
  refine AtL.pick (H' := [(b, .cells #[.int .i64 m, .bool br, .slice y.A y.l.length y.C, .int .i64 (off : Int), .int .i8 lr, .int .i64 e] 56 (0, 0))] :: y.s :: H) [1, 0] 2 rfl rfl ?_
  refine AtL.call tf_body31 (.inl rfl) rfl rfl (none_ok (y := y) (off := off)) ?_
  rintro _ _ ⟨rfl, rfl⟩
  refine AtL.assign (.inl rfl) rfl rfl ?_
  refine AtL.done ?_
  refine At.condIs false rfl (decide_eq_false (by omega)) ?_
  refine At.seq ?_
  refine At.region ?_
  refine AtL.move (.inl rfl) rfl rfl ?_
  refine AtL.nilCheck (.inl rfl) rfl rfl ?_
  refine AtL.fieldAddrB tf_fo56_1 (.inl rfl) rfl rfl rfl ?_
  refine AtL.load tf_flat4 (.inl rfl) rfl rfl (Cell.own 0 0 rfl rfl rfl) ?_
  refine AtL.assign (.inl rfl) rfl rfl ?_
  refine AtL.done ?_
  refine At.cond rfl ?_ ?_
  · intro hc2
    have hc2 : br = true := hc2
    refine At.seq ?_
    refine At.region ?_
    refine AtL.assign (.inl rfl) rfl rfl ?_
    refine AtL.assign (.inl rfl) rfl rfl ?_
    refine AtL.done ?_
    refine At.nil ?_
    refine At.nil ?_
    refine At.pick (H' := [] :: [] :: y.s :: [(b, .cells #[.int .i64 m, .bool br, .slice y.A y.l.length y.C, .int .i64 (off : Int), .int .i8 lr, .int .i64 e] 56 (0, 0))] :: H) [0, 1, 3, 2] 4 rfl rfl ?_
    exact At.ret Tryd.func23 rfl rfl (⟨Sl.nil, [], y, off, lr, rfl, by rw [frP, if_pos hc2]; rfl, ho, Nat.le_add_right _ _, by rw [frP, if_pos hc2], by rw [frP, if_pos hc2]; rfl, by rw [frB, if_pos hc2, if_pos hc2, hc2]; rfl⟩)
  · intro hc2
    have hc2 : br = false := hc2
    subst hc2
    obtain rfl := he rfl
    refine At.skip ?_
    refine At.inBlock ?_
    refine At.seq ?_
    refine At.region ?_
    refine AtL.move (.inl rfl) rfl rfl ?_
    refine AtL.nilCheck (.inl rfl) rfl rfl ?_
    refine AtL.fieldAddrB tf_fo56_2 (.inl rfl) rfl rfl rfl ?_
    refine AtL.move (.inl rfl) rfl rfl ?_
    refine AtL.pick (H' := y.s :: [(b, .cells #[.int .i64 m, .bool false, .slice y.A y.l.length y.C, .int .i64 (off : Int), .int .i8 lr, .int .i64 0] 56 (0, 0))] :: H) [1, 0] 2 rfl rfl ?_
    refine AtL.call tf_body32 (.inl rfl) rfl rfl (bwrite_ok (y := y) (off := off) (l := l) h (by first | omega | (dsimp only; omega)) (by first | omega | (dsimp only; omega))) ?_
    rintro _ _ ⟨⟨A1, C2, l3, s4, o5⟩, p6, h7, h8, h9, rfl, rfl⟩
    have hw1 := h7
    have hw2 := h8
    have hw3 := h9
    dsimp only at hw1 hw2 hw3
    refine AtL.done ?_
    refine At.seq ?_
    refine At.region ?_
    refine AtL.alloc tf_zero31 (cs := #[.slice none 0 0]) rfl (.inl rfl) rfl ?_
    intro b10
    refine AtL.done ?_
    refine At.seq ?_
    refine At.seq ?_
    refine At.region ?_
    refine AtL.move (.inl rfl) rfl rfl ?_
    refine AtL.call tf_body33 (.inl rfl) rfl rfl (whole_ok (b := b)) ?_
    rintro _ _ ⟨vr11, rfl, rfl⟩
    refine AtL.done ?_
    refine At.block ?_
    obtain ⟨c0, hc0⟩ : ∃ c0, c0 = l3.drop p6 := ⟨_, rfl⟩
    have hc0l : c0.length = l3.length - p6 := by rw [hc0, List.length_drop]
    refine At.nil ?_
    refine At.nil ?_
    refine At.rangeF (R := fun L lp rr v H' => ∃ off1 : Nat, ∃ lr1 : Int, ∃ x : Sl tyL 22, ∃ ys : List (Sl tyB 5), x.l = ys.map Sl.v ∧ ys.map (·.l) = (frF m c0).out ∧ off1 ≤ l3.length ∧ ((frF m c0).e = 0 → l3.drop off1 = (frF m c0).rest) ∧ H' = [(vr11, .cells #[.pointer (some ⟨b, 0, none⟩)] 39 (0, 0))] :: s4 :: [(b, .cells #[.int .i64 m, .bool false, .slice A1 l3.length C2, .int .i64 (off1 : Int), .int .i8 lr1, .int .i64 ((frF m c0).e)] 56 (0, 0))] :: [(lp, .loop L)] :: [(rr, .deferred (some []))] :: x.s :: segsOf ys :: [(b10, .cells #[.slice x.A x.l.length x.C] 31 (0, 0))] :: H) rfl tf_body39 rfl (fun lp => rfl) (fun L lp rr hL => ?_) (fun L lp rr v H1 hL hR => ?_)
    · skip
      refine SCalls.pick (H' := [(vr11, .cells #[.pointer (some ⟨b, 0, none⟩)] 39 (0, 0))] :: s4 :: [(b, .cells #[.int .i64 m, .bool false, .slice A1 l3.length C2, .int .i64 (p6 : Int), .int .i8 0, .int .i64 0] 56 (0, 0))] :: [(lp, .loop L)] :: [(rr, .deferred (some []))] :: [] :: [] :: [(b10, .cells #[.slice none 0 0] 31 (0, 0))] :: H) [4, 6, 7, 0, 1, 2, 3, 5] 8 rfl rfl ?_
      refine SCalls.mono (wholeit_ok (y := ⟨A1, C2, l3, s4, o5⟩) (off := p6) (T := H) (Hc := [[(lp, .loop L)], [(rr, .deferred (some []))], [], [], [(b10, .cells #[.slice none 0 0] 31 (0, 0))]]) (J := (fun cu Hc => ∃ x : Sl tyL 22, ∃ ys : List (Sl tyB 5), x.l = ys.map Sl.v ∧ ys.map (·.l) ++ (frF m cu).out = (frF m c0).out ∧ (frF m cu).e = (frF m c0).e ∧ (frF m cu).rest = (frF m c0).rest ∧ ys.length + cu.length ≤ c0.length ∧ Hc = [[(lp, .loop L)], [(rr, .deferred (some []))], x.s, segsOf ys, [(b10, .cells #[.slice x.A x.l.length x.C] 31 (0, 0))]])) (by dsimp only; omega) (by dsimp only; omega) hm (fun cu Hc hn9 hJ z hz T' => ?_) ⟨Sl.nil, [], rfl, by dsimp only; rw [hc0]; rfl, by dsimp only; rw [hc0], by dsimp only; rw [hc0], by dsimp only; rw [hc0]; simp, rfl⟩) (fun v H' hp => ?_)
      · skip
        obtain ⟨x, ys, hxy, hI, hIe, hIr, hlen, rfl⟩ := hJ
        have hxl : x.l.length = ys.length := by rw [hxy, List.length_map]
        have hn8 := frS_n m cu hn9
        refine YCalls.walkL hL (i := 1) (j := 0) rfl rfl rfl rfl rfl (fun c cs => ?_)
        refine At.region ?_
        refine AtL.assign (.inl rfl) rfl rfl ?_
        refine AtL.done ?_
        refine At.beginL 1 0 hL rfl rfl rfl rfl ?_
        refine At.block ?_
        refine At.region ?_
        refine AtL.load tf_flat31 (.inl rfl) rfl rfl (Cell.own 5 0 rfl rfl rfl) ?_
        refine AtL.move (.inl rfl) rfl rfl ?_
        refine AtL.buildSlice (cs := [.slice z.A z.l.length z.C]) Tryd.underlying31 tf_zero22 tf_sz22 rfl rfl (.inl rfl) rfl rfl rfl ?_
        intro b12
        refine AtL.own1 tyL (l := ([(⟨z.A, z.C, z.l⟩ : Bs)] : List Bs)) rfl rfl (by first | decide | simp) ?_
        intro s13 o14
        refine AtL.append (l := x.l) (news := [(⟨z.A, z.C, z.l⟩ : Bs)]) 4 tf_el31 rfl x.own (o14.rd (i := 0) rfl) (by first | omega | (simp only [List.length_append, List.length_cons, List.length_nil]; omega) | (simp; done) | (simp; omega)) (.inl rfl) rfl rfl rfl ?_
        intro A15 C16 s17 o18
        refine AtL.store (H' := s13 :: z.s :: [(lp, .loop (busyL L))] :: [(rr, .deferred (some []))] :: s17 :: segsOf ys :: [(b10, .cells #[.slice A15 (x.l ++ [(⟨z.A, z.C, z.l⟩ : Bs)]).length C16] 31 (0, 0))] :: T') 6 0 tf_sz31 (.inl rfl) rfl rfl rfl rfl rfl rfl rfl rfl rfl ?_
        refine AtL.done ?_
        refine At.inBlock ?_
        refine At.pick (H' := z.s :: segsOf ys :: s13 :: [(lp, .loop (busyL L))] :: [(rr, .deferred (some []))] :: s17 :: [(b10, .cells #[.slice A15 (x.l ++ [(⟨z.A, z.C, z.l⟩ : Bs)]).length C16] 31 (0, 0))] :: T') [1, 5, 0, 2, 3, 4, 6] 7 rfl rfl ?_
        refine At.flat (flat_snoc z ys _) ?_
        refine At.pick (H' := [(lp, .loop (busyL L))] :: [(rr, .deferred (some []))] :: s17 :: segsOf (ys ++ [z]) :: [(b10, .cells #[.slice A15 (x.l ++ [(⟨z.A, z.C, z.l⟩ : Bs)]).length C16] 31 (0, 0))] :: T') [2, 3, 4, 0, 5] 6 rfl rfl ?_
        have hM := frF_more hn9
        exact At.roundEndL 0 0 hL rfl rfl rfl (⟨rfl, [[(lp, .loop L)], [(rr, .deferred (some []))], s17, segsOf (ys ++ [z]), [(b10, .cells #[.slice A15 (x.l ++ [(⟨z.A, z.C, z.l⟩ : Bs)]).length C16] 31 (0, 0))]], rfl, ⟨A15, C16, x.l ++ [(⟨z.A, z.C, z.l⟩ : Bs)], s17, o18⟩, ys ++ [z], by dsimp only; rw [hxy]; simp [Sl.v], by rw [← hI, hM]; simp [hz], by rw [← hIe, hM], by rw [← hIr, hM], by have := frS_n m cu hn9; simp; omega, rfl⟩)
      · skip
        obtain ⟨off1, lr1, Hc', ho1, hS1, ⟨x, ys, hxy, hI, hIe, hIr, hlen, rfl⟩, rfl, rfl⟩ := hp
        dsimp only at ho1 hS1 hI hIe hIr hlen
        have hq : (frS m (l3.drop off1)).e = (frF m c0).e ∧ ys.map (·.l) = (frF m c0).out ∧ ((frF m c0).e = 0 → l3.drop off1 = (frF m c0).rest) := by
          by_cases h9 : (frS m (l3.drop off1)).e = 0
          · have hM := frF_none h9 hS1
            rw [hM] at hI hIe hIr; dsimp only at hI hIe hIr
            exact ⟨by rw [h9, hIe], by rw [← hI]; simp, fun _ => hIr⟩
          · have hM := frF_err h9
            rw [hM] at hI hIe hIr; dsimp only at hI hIe hIr
            exact ⟨hIe, by rw [← hI]; simp, fun h8 => absurd (hIe.trans h8) h9⟩
        rw [hq.1]
        exact ⟨off1, lr1, x, ys, hxy, hq.2.1, ho1, hq.2.2, rfl⟩
    · skip
      obtain ⟨off1, lr1, x, ys, hxy, hI, ho1, hR1, rfl⟩ := hR
      refine ⟨3, 0, _, L, _, rfl, rfl, loop_ready hL, rfl, ?_⟩
      rw [loop_dry hL]
      refine At.inBlock ?_
      refine At.seq ?_
      refine At.seq ?_
      refine At.region ?_
      refine AtL.move (.inl rfl) rfl rfl ?_
      refine AtL.nilCheck (.inl rfl) rfl rfl ?_
      refine AtL.fieldAddrB tf_fo56_3 (.inl rfl) rfl rfl rfl ?_
      refine AtL.load tf_flat25 (.inl rfl) rfl rfl (Cell.own 2 0 rfl rfl rfl) ?_
      refine AtL.nei (.inl rfl) rfl rfl rfl ?_
      refine AtL.done ?_
      refine At.cond rfl ?_ ?_
      · intro hc3
        have hc3 : ¬ (((frF m c0).e : Int) = 0) := of_decide_eq_false (bnot_true hc3)
        refine At.seq ?_
        refine At.region ?_
        refine AtL.move (.inl rfl) rfl rfl ?_
        refine AtL.nilCheck (.inl rfl) rfl rfl ?_
        refine AtL.fieldAddrB tf_fo56_1 (.inl rfl) rfl rfl rfl ?_
        refine AtL.store (H' := [(vr11, .cells #[.pointer (some ⟨b, 0, none⟩)] 39 (0, 0))] :: s4 :: [(b, .cells #[.int .i64 m, .bool true, .slice A1 l3.length C2, .int .i64 (off1 : Int), .int .i8 lr1, .int .i64 ((frF m c0).e)] 56 (0, 0))] :: [(lp, .loop (overL L))] :: [(rr, .deferred (some []))] :: x.s :: segsOf ys :: [(b10, .cells #[.slice x.A x.l.length x.C] 31 (0, 0))] :: H) 2 0 tf_sz4 (.inl rfl) rfl rfl rfl rfl rfl rfl rfl rfl rfl ?_
        refine AtL.done ?_
        refine At.region ?_
        refine AtL.move (.inl rfl) rfl rfl ?_
        refine AtL.nilCheck (.inl rfl) rfl rfl ?_
        refine AtL.fieldAddrB tf_fo56_2 (.inl rfl) rfl rfl rfl ?_
        refine AtL.pick (H' := s4 :: [(b, .cells #[.int .i64 m, .bool true, .slice A1 l3.length C2, .int .i64 (off1 : Int), .int .i8 lr1, .int .i64 ((frF m c0).e)] 56 (0, 0))] :: [(vr11, .cells #[.pointer (some ⟨b, 0, none⟩)] 39 (0, 0))] :: [(lp, .loop (overL L))] :: [(rr, .deferred (some []))] :: x.s :: segsOf ys :: [(b10, .cells #[.slice x.A x.l.length x.C] 31 (0, 0))] :: H) [1, 2, 0, 3, 4, 5, 6, 7] 8 rfl rfl ?_
        refine AtL.call tf_body34 (.inl rfl) rfl rfl (breset_ok (y := ⟨A1, C2, l3, s4, o5⟩)) ?_
        rintro _ _ ⟨⟨A19, C20, l21, s22, o23⟩, h24, h25, rfl, rfl⟩
        obtain rfl : ([] : List UInt8) = l21 := h24.symm
        have hrc := h25
        dsimp only at hrc
        refine AtL.done ?_
        refine At.seq ?_
        refine At.draw (es := []) (pv := [(0, .slice x.A x.l.length x.C), (1, .pointer (some ⟨b, 0, none⟩)), (2, .pointer (some ⟨b, 0, none⟩)), (3, .pointer (some ⟨b, 5, none⟩)), (4, .int .i64 ((frF m c0).e)), (5, .slice x.A x.l.length x.C), (6, .int .i64 ((frF m c0).e))]) tf_mixed (by kernel_rfl) (by kernel_rfl) (by kernel_rfl) ?_
        refine ⟨⟨.inr ⟨_, rfl, rfl, .inl ⟨rfl, Do.load tf_flat31 rfl (Cell.own 7 0 rfl rfl rfl)⟩⟩, .inr ⟨_, rfl, rfl, .inl ⟨rfl, Do.move rfl⟩⟩, .inr ⟨_, rfl, rfl, .inl ⟨rfl, Do.nilCheck rfl⟩⟩, .inr ⟨_, rfl, rfl, .inl ⟨rfl, Do.fieldAddrB tf_fo56_3 rfl rfl⟩⟩, .inr ⟨_, rfl, rfl, .inl ⟨rfl, Do.load tf_flat25 rfl (Cell.own 1 0 rfl rfl rfl)⟩⟩, .inr ⟨_, rfl, rfl, .inl ⟨rfl, Do.assign rfl⟩⟩, .inr ⟨_, rfl, rfl, .inl ⟨rfl, Do.assign rfl⟩⟩, trivial⟩, by kernel_rfl, ?_⟩
        refine At.mono (E' := [(4, .slice x.A x.l.length x.C), (5, .int .i64 ((frF m c0).e))]) ⟨rfl, rfl, trivial⟩ ?_
        refine At.retU rfl ?_
        refine Un.collected (i := 4) (j := 0) rfl rfl rfl rfl ?_
        have hc9 : c0 = y.l.drop off ++ l := by rw [hc0, hw2]
        have hp : frP false m (y.l.drop off) l = frF m c0 := by rw [frP, if_neg (by simp), hc9]
        have hb : frB false m (y.l.drop off) l = decide ((frF m c0).e ≠ 0) := by rw [frB, if_neg (by simp), hc9]
        have he9 : (frF m c0).e ≠ 0 := hc3
        have hr9 := frF_rest m c0 he9
        exact Un.leftP (vs := [.slice x.A x.l.length x.C, .int .i64 ((frF m c0).e)]) (H2 := x.s :: segsOf ys :: s22 :: [(b, .cells #[.int .i64 m, .bool true, .slice A19 ([] : List UInt8).length C20, .int .i64 0, .int .i8 0, .int .i64 ((frF m c0).e)] 56 (0, 0))] :: H) [5, 6, 0, 1] 8 rfl rfl Tryd.func23 rfl ⟨rfl, rfl, trivial⟩ (⟨x, ys, ⟨A19, C20, ([] : List UInt8), s22, o23⟩, 0, 0, hxy, by rw [hp]; exact hI, by simp, by simp, by rw [hp, hr9]; simp, by rw [hp] <;> rfl, by rw [hb, decide_eq_true he9, if_neg (by simp), ← hc9] <;> rfl⟩)
      · intro hc3
        have hc3 : ((frF m c0).e : Int) = 0 := of_decide_eq_true (bnot_false hc3)
        refine At.skip ?_
        refine At.seq ?_
        refine At.draw (es := []) (pv := [(0, .slice x.A x.l.length x.C), (1, .pointer (some ⟨b, 0, none⟩)), (2, .pointer (some ⟨b, 0, none⟩)), (3, .pointer (some ⟨b, 5, none⟩)), (4, .int .i64 ((frF m c0).e)), (5, .slice x.A x.l.length x.C), (6, .int .i64 ((frF m c0).e))]) tf_mixed (by kernel_rfl) (by kernel_rfl) (by kernel_rfl) ?_
        refine ⟨⟨.inr ⟨_, rfl, rfl, .inl ⟨rfl, Do.load tf_flat31 rfl (Cell.own 7 0 rfl rfl rfl)⟩⟩, .inr ⟨_, rfl, rfl, .inl ⟨rfl, Do.move rfl⟩⟩, .inr ⟨_, rfl, rfl, .inl ⟨rfl, Do.nilCheck rfl⟩⟩, .inr ⟨_, rfl, rfl, .inl ⟨rfl, Do.fieldAddrB tf_fo56_3 rfl rfl⟩⟩, .inr ⟨_, rfl, rfl, .inl ⟨rfl, Do.load tf_flat25 rfl (Cell.own 2 0 rfl rfl rfl)⟩⟩, .inr ⟨_, rfl, rfl, .inl ⟨rfl, Do.assign rfl⟩⟩, .inr ⟨_, rfl, rfl, .inl ⟨rfl, Do.assign rfl⟩⟩, trivial⟩, by kernel_rfl, ?_⟩
        refine At.mono (E' := [(4, .slice x.A x.l.length x.C), (5, .int .i64 ((frF m c0).e))]) ⟨rfl, rfl, trivial⟩ ?_
        refine At.retU rfl ?_
        refine Un.collected (i := 4) (j := 0) rfl rfl rfl rfl ?_
        have hc9 : c0 = y.l.drop off ++ l := by rw [hc0, hw2]
        have hp : frP false m (y.l.drop off) l = frF m c0 := by rw [frP, if_neg (by simp), hc9]
        have hb : frB false m (y.l.drop off) l = decide ((frF m c0).e ≠ 0) := by rw [frB, if_neg (by simp), hc9]
        have he9 : (frF m c0).e = 0 := by omega
        exact Un.leftP (vs := [.slice x.A x.l.length x.C, .int .i64 ((frF m c0).e)]) (H2 := x.s :: segsOf ys :: s4 :: [(b, .cells #[.int .i64 m, .bool false, .slice A1 l3.length C2, .int .i64 (off1 : Int), .int .i8 lr1, .int .i64 ((frF m c0).e)] 56 (0, 0))] :: H) [5, 6, 1, 2] 8 rfl rfl Tryd.func23 rfl ⟨rfl, rfl, trivial⟩ (⟨x, ys, ⟨A1, C2, l3, s4, o5⟩, off1, lr1, hxy, by rw [hp]; exact hI, ho1, hw3, by rw [hp]; exact hR1 he9, by rw [hp] <;> rfl, by rw [hb, decide_eq_false (fun h => h he9), if_neg (by simp), ← hc9] <;> rfl⟩)

end Go.Proofs.YtllfgcekebafhaaDoor
