/- RespKnown: the walk. -/
import Derived.Test.YtlfkoimkojbghaaGreatDoorTL2
namespace Go.Proofs.YtlfkoimkojbghaaGreatDoor
set_option linter.unusedVariables false
set_option linter.unusedSimpArgs false
set_option maxRecDepth 100000

theorem dig404 : decF 404 = [52, 48, 52] := by rw [decF, if_neg (by decide), decF, if_neg (by decide), decF, if_pos (by decide)]; decide

theorem dig10 : decF 10 = [49, 48] := by rw [decF, if_neg (by decide), decF, if_pos (by decide)]; decide

theorem rk2 : respE ⟨404, [(([67, 111, 110, 116, 101, 110, 116, 45, 84, 121, 112, 101] : List UInt8), ([116, 101, 120, 116, 47, 112, 108, 97, 105, 110] : List UInt8))], [78, 111, 116, 32, 70, 111, 117, 110, 100, 10], false⟩ = 0 ∧ respL ⟨404, [(([67, 111, 110, 116, 101, 110, 116, 45, 84, 121, 112, 101] : List UInt8), ([116, 101, 120, 116, 47, 112, 108, 97, 105, 110] : List UInt8))], [78, 111, 116, 32, 70, 111, 117, 110, 100, 10], false⟩ = [72, 84, 84, 80, 47, 49, 46, 49, 32, 52, 48, 52, 32, 78, 111, 116, 32, 70, 111, 117, 110, 100, 13, 10, 67, 111, 110, 116, 101, 110, 116, 45, 84, 121, 112, 101, 58, 32, 116, 101, 120, 116, 47, 112, 108, 97, 105, 110, 13, 10, 67, 111, 110, 116, 101, 110, 116, 45, 76, 101, 110, 103, 116, 104, 58, 32, 49, 48, 13, 10, 67, 111, 110, 110, 101, 99, 116, 105, 111, 110, 58, 32, 99, 108, 111, 115, 101, 13, 10, 13, 10, 78, 111, 116, 32, 70, 111, 117, 110, 100, 10] := by
  have h : respE ⟨404, [(([67, 111, 110, 116, 101, 110, 116, 45, 84, 121, 112, 101] : List UInt8), ([116, 101, 120, 116, 47, 112, 108, 97, 105, 110] : List UInt8))], [78, 111, 116, 32, 70, 111, 117, 110, 100, 10], false⟩ = 0 := by decide +kernel
  refine ⟨h, ?_⟩
  rw [(resp_good h).1]
  simp only [respB, headR, stB, lenB]
  rw [show (404 : Int).toNat = 404 from rfl, dig404, show (([78, 111, 116, 32, 70, 111, 117, 110, 100, 10] : List UInt8)).length = 10 from rfl, dig10]
  decide +kernel

def abB : List UInt8 := [72, 84, 84, 80, 47, 49, 46, 49, 32, 50, 48, 48, 32, 79, 75, 13, 10, 97, 58, 32, 98, 13, 10, 67, 111, 110, 116, 101, 110, 116, 45, 76, 101, 110, 103, 116, 104, 58, 32, 49, 13, 10, 13, 10, 120]
def nfB : List UInt8 := [72, 84, 84, 80, 47, 49, 46, 49, 32, 52, 48, 52, 32, 78, 111, 116, 32, 70, 111, 117, 110, 100, 13, 10, 67, 111, 110, 116, 101, 110, 116, 45, 84, 121, 112, 101, 58, 32, 116, 101, 120, 116, 47, 112, 108, 97, 105, 110, 13, 10, 67, 111, 110, 116, 101, 110, 116, 45, 76, 101, 110, 103, 116, 104, 58, 32, 49, 48, 13, 10, 67, 111, 110, 110, 101, 99, 116, 105, 111, 110, 58, 32, 99, 108, 111, 115, 101, 13, 10, 13, 10, 78, 111, 116, 32, 70, 111, 117, 110, 100, 10]
theorem abB_len : abB.length = 45 := rfl
theorem nfB_len : nfB.length = 101 := rfl
theorem rk1b : respE ⟨200, [(([97] : List UInt8), ([98] : List UInt8))], ([120] : List UInt8), true⟩ = 0 ∧ respL ⟨200, [(([97] : List UInt8), ([98] : List UInt8))], ([120] : List UInt8), true⟩ = abB := rk1
theorem rk2b : respE ⟨404, [(([67, 111, 110, 116, 101, 110, 116, 45, 84, 121, 112, 101] : List UInt8), ([116, 101, 120, 116, 47, 112, 108, 97, 105, 110] : List UInt8))], [78, 111, 116, 32, 70, 111, 117, 110, 100, 10], false⟩ = 0 ∧ respL ⟨404, [(([67, 111, 110, 116, 101, 110, 116, 45, 84, 121, 112, 101] : List UInt8), ([116, 101, 120, 116, 47, 112, 108, 97, 105, 110] : List UInt8))], [78, 111, 116, 32, 70, 111, 117, 110, 100, 10], false⟩ = nfB := rk2

theorem sb2 : ∀ f ∈ ([(([67, 111, 110, 116, 101, 110, 116, 45, 84, 121, 112, 101] : List UInt8), ([116, 101, 120, 116, 47, 112, 108, 97, 105, 110] : List UInt8))] : List Fld), f.1.length ≤ 140737488355000 ∧ f.2.length ≤ 140737488355000 := by decide +kernel
theorem rs404b : reasonF 404 ++ [10] = [78, 111, 116, 32, 70, 111, 117, 110, 100, 10] := by decide
theorem rk_read : readF (abB ++ [1, 2, 3, 4, 5]) 0 = (⟨200, [(([97] : List UInt8), ([98] : List UInt8))], ([120] : List UInt8), true⟩, 45, 0) := by
  have h := rk1b
  have hB : respB ⟨200, [(([97] : List UInt8), ([98] : List UInt8))], ([120] : List UInt8), true⟩ = abB := (resp_good h.1).1.symm.trans h.2
  have := read_yes (b := abB ++ [1, 2, 3, 4, 5]) (at_ := 0) (r := ⟨200, [(([97] : List UInt8), ([98] : List UInt8))], ([120] : List UInt8), true⟩) (by decide) (respE_ok h.1) (by rw [hB]; exact ⟨[1, 2, 3, 4, 5], rfl⟩)
  rw [this, hB]; rfl
theorem rk_nil : ∀ r, ¬ respB r <+: ([] : List UInt8) := by
  intro r h
  have h1 := h.length_le
  have h2 := respB_pos r
  simp at h1
  rw [h1] at h2; simp at h2
theorem rk_n0 : readF [] 0 = (⟨0, [], [], false⟩, 0, 4) := read_no (by decide) (fun r _ h => rk_nil r h)
theorem rk_n1 : readF [] 1 = (⟨0, [], [], false⟩, 0, 5) := read_range (by decide)
theorem read_kn {w0 : World} {base : Nat} {H : List Seg} {A : Option Addr} {C : Nat} {b : List UInt8} {a st n e : Int} {fs : List Fld} {body : List UInt8} {kp : Bool} (hk : readF b a = (⟨st, fs, body, kp⟩, n, e)) (h : Rd tyB w0 base H A C b) (hbl : b.length ≤ 4294967280) (T : Tabs w0 base) (ET : ErrTab w0 base) (T10 : Tab10 w0 base) :
    SCalls Tryz.prog 39 [.slice A b.length C, int a] w0 base H (fun v H' => ∃ (x : Sl tyField 52) (y : Sl tyB 5), x.l = fs ∧ y.l = body ∧ v = .tuple #[.agg #[int st, .slice x.A x.l.length x.C, .slice y.A y.l.length y.C, .bool kp], int n, int e] ∧ H' = x.s :: y.s :: H) := by
  refine (read15_ok a h hbl T ET T10).mono ?_
  rintro v H' ⟨R, hR, x, y, hx, hy, rfl, rfl⟩
  rw [hk] at hR ⊢
  subst hR
  exact ⟨x, y, hx, hy, rfl, rfl⟩
theorem plain404 {w0 : World} {base : Nat} {H : List Seg} : SCalls Tryz.prog 46 [int 404, .bool false] w0 base H (fun v H' => ∃ (x : Sl tyField 52) (y : Sl tyB 5), x.l = [(([67, 111, 110, 116, 101, 110, 116, 45, 84, 121, 112, 101] : List UInt8), ([116, 101, 120, 116, 47, 112, 108, 97, 105, 110] : List UInt8))] ∧ y.l = [78, 111, 116, 32, 70, 111, 117, 110, 100, 10] ∧ v = .agg #[int 404, .slice x.A x.l.length x.C, .slice y.A y.l.length y.C, .bool false] ∧ H' = x.s :: y.s :: H) := by
  have h := plain_ok (w0 := w0) (base := base) (H := H) 404 false
  rw [rs404b] at h
  exact h
theorem rk_201 : respE ⟨201, [], [], false⟩ = 2 := by decide +kernel
theorem rk_con : respE ⟨200, [([67, 111, 110, 110, 101, 99, 116, 105, 111, 110], [97])], [], false⟩ = 2 := by decide +kernel
theorem sb3 : ∀ f ∈ ([([67, 111, 110, 110, 101, 99, 116, 105, 111, 110], [97])] : List Fld), f.1.length ≤ 140737488355000 ∧ f.2.length ≤ 140737488355000 := by decide +kernel

theorem read_n0 {w0 : World} {base : Nat} {H : List Seg} (T : Tabs w0 base) (ET : ErrTab w0 base) (T10 : Tab10 w0 base) : SCalls Tryz.prog 39 [.slice none 0 0, .int .i64 0] w0 base H (fun v H' => ∃ (x : Sl tyField 52) (y : Sl tyB 5), x.l = [] ∧ y.l = [] ∧ v = .tuple #[.agg #[int 0, .slice x.A x.l.length x.C, .slice y.A y.l.length y.C, .bool false], int 0, int 4] ∧ H' = x.s :: y.s :: H) :=
  read_kn (A := none) (C := 0) (b := []) (a := 0) (st := 0) (n := 0) (e := 4) (fs := []) (body := []) (kp := false) rk_n0 Rd.nil_ (Nat.zero_le _) T ET T10

theorem read_n1 {w0 : World} {base : Nat} {H : List Seg} (T : Tabs w0 base) (ET : ErrTab w0 base) (T10 : Tab10 w0 base) : SCalls Tryz.prog 39 [.slice none 0 0, .int .i64 1] w0 base H (fun v H' => ∃ (x : Sl tyField 52) (y : Sl tyB 5), x.l = [] ∧ y.l = [] ∧ v = .tuple #[.agg #[int 0, .slice x.A x.l.length x.C, .slice y.A y.l.length y.C, .bool false], int 0, int 5] ∧ H' = x.s :: y.s :: H) :=
  read_kn (A := none) (C := 0) (b := []) (a := 1) (st := 0) (n := 0) (e := 5) (fs := []) (body := []) (kp := false) rk_n1 Rd.nil_ (Nat.zero_le _) T ET T10

set_option maxHeartbeats 400000 in
theorem respknown_ok {w0 : World} {base : Nat} {H : List Seg} (T : Tabs w0 base) (ET : ErrTab w0 base) (T10 : Tab10 w0 base) :
    SCalls Tryz.prog 7 [] w0 base (H) (fun v H' => v = .bool true ∧ H' = H) := by
  have hab := abB_len
  have hnf := nfB_len
  refine SCalls.of_walk (n := 104) Tryz.func7 rfl rfl rfl fun cs => ?_
  refine At.seq ?_
  refine At.region ?_
  refine AtL.assign (.inl rfl) rfl rfl ?_
  refine AtL.done ?_
  refine At.seq ?_
  refine At.region ?_
  refine AtL.call tf_body44 (.inl rfl) rfl rfl ab_ok ?_
  rintro _ _ ⟨⟨A1, C2, l3, s4, o5⟩, ⟨A6, C7, l8, s9, o10⟩, hx11, hx12, rfl, rfl⟩
  obtain rfl : [(([97] : List UInt8), ([98] : List UInt8))] = l3 := hx11.symm
  obtain rfl : ([120] : List UInt8) = l8 := hx12.symm
  refine AtL.call tf_body42 (.inl rfl) rfl rfl (write_known rk1b (o5.rd (i := 0) rfl) (o10.rd (i := 1) rfl) sb1 T10) ?_
  rintro _ _ ⟨⟨A13, C14, l15, s16, o17⟩, hx18, rfl, rfl⟩
  obtain rfl : abB = l15 := hx18.symm
  refine AtL.move (.inl rfl) rfl rfl ?_
  refine AtL.extract (.inl rfl) rfl rfl rfl ?_
  refine AtL.extract (.inl rfl) rfl rfl rfl ?_
  refine AtL.assign (.inl rfl) rfl rfl ?_
  refine AtL.assign (.inl rfl) rfl rfl ?_
  refine AtL.done ?_
  refine At.seq ?_
  refine At.region ?_
  refine AtL.move (.inl rfl) rfl rfl ?_
  refine AtL.call tf_body45 (.inl rfl) rfl rfl (copy_ok (l := abB) (o17.rd (i := 0) rfl) (by omega)) ?_
  rintro _ _ ⟨A19, C20, s21, o22, rfl, rfl⟩
  refine AtL.buildSlice (cs := [.int .u8 1, .int .u8 2, .int .u8 3, .int .u8 4, .int .u8 5]) Tryz.underlying22 tf_zero5 tf_sz5 rfl rfl (.inl rfl) rfl rfl rfl ?_
  intro b23
  refine AtL.own1 tyB (l := ([1, 2, 3, 4, 5] : List UInt8)) rfl rfl (by first | decide | simp) ?_
  intro s24 o25
  refine AtL.append (l := abB) (news := [1, 2, 3, 4, 5]) 1 tf_el22 rfl o22 (o25.rd (i := 0) rfl) (by first | omega | (simp only [List.length_append, List.length_cons, List.length_nil]; omega) | (simp; done) | (simp; omega)) (.inl rfl) rfl rfl rfl ?_
  intro A26 C27 s28 o29
  refine AtL.call tf_body39 (.inl rfl) rfl rfl (read_kn rk_read (o29.rd (i := 1) rfl) (by decide) T ET T10) ?_
  rintro _ _ ⟨⟨A30, C31, l32, s33, o34⟩, ⟨A35, C36, l37, s38, o39⟩, hx40, hx41, rfl, rfl⟩
  obtain rfl : [(([97] : List UInt8), ([98] : List UInt8))] = l32 := hx40.symm
  obtain rfl : ([120] : List UInt8) = l37 := hx41.symm
  refine AtL.move (.inl rfl) rfl rfl ?_
  refine AtL.extract (.inl rfl) rfl rfl rfl ?_
  refine AtL.extract (.inl rfl) rfl rfl rfl ?_
  refine AtL.extract (.inl rfl) rfl rfl rfl ?_
  refine AtL.alloc tf_zero42 (cs := #[.int .i64 0, .slice none 0 0, .slice none 0 0, .bool false]) rfl (.inl rfl) rfl ?_
  intro b42
  refine AtL.store (H' := [(b42, .cells #[.int .i64 200, .slice A30 ([(([97] : List UInt8), ([98] : List UInt8))]).length C31, .slice A35 ([120] : List UInt8).length C36, .bool true] 42 (0, 0))] :: s33 :: s38 :: s24 :: s28 :: s16 :: s4 :: s9 :: H) 0 0 tf_sz42 (.inl rfl) rfl rfl rfl rfl rfl rfl rfl rfl rfl ?_
  refine AtL.assign (.inl rfl) rfl rfl ?_
  refine AtL.assign (.inl rfl) rfl rfl ?_
  refine AtL.done ?_
  refine At.seq ?_
  refine At.region ?_
  refine AtL.call tf_body46 (.inl rfl) rfl rfl plain404 ?_
  rintro _ _ ⟨⟨A43, C44, l45, s46, o47⟩, ⟨A48, C49, l50, s51, o52⟩, hx53, hx54, rfl, rfl⟩
  obtain rfl : [(([67, 111, 110, 116, 101, 110, 116, 45, 84, 121, 112, 101] : List UInt8), ([116, 101, 120, 116, 47, 112, 108, 97, 105, 110] : List UInt8))] = l45 := hx53.symm
  obtain rfl : [78, 111, 116, 32, 70, 111, 117, 110, 100, 10] = l50 := hx54.symm
  refine AtL.call tf_body42 (.inl rfl) rfl rfl (write_known rk2b (o47.rd (i := 0) rfl) (o52.rd (i := 1) rfl) sb2 T10) ?_
  rintro _ _ ⟨⟨A55, C56, l57, s58, o59⟩, hx60, rfl, rfl⟩
  obtain rfl : nfB = l57 := hx60.symm
  refine AtL.move (.inl rfl) rfl rfl ?_
  refine AtL.extract (.inl rfl) rfl rfl rfl ?_
  refine AtL.extract (.inl rfl) rfl rfl rfl ?_
  refine AtL.assign (.inl rfl) rfl rfl ?_
  refine AtL.assign (.inl rfl) rfl rfl ?_
  refine AtL.done ?_
  refine At.seq ?_
  refine At.draw (es := [4]) (pv := [(0, .int .i64 0), (1, .bool true), (2, .bool true), (3, .agg #[.int .i64 200, .slice A30 ([(([97] : List UInt8), ([98] : List UInt8))]).length C31, .slice A35 ([120] : List UInt8).length C36, .bool true])]) tf_mixed (by kernel_rfl) (by kernel_rfl) (by kernel_rfl) ?_
  refine ⟨⟨.inr ⟨_, rfl, rfl, .inl ⟨rfl, Do.move rfl⟩⟩, .inr ⟨_, rfl, rfl, .inl ⟨rfl, Do.asBool (Do.eqi rfl rfl) (by decide)⟩⟩, .inr ⟨_, rfl, rfl, .inl ⟨rfl, Do.move rfl⟩⟩, .inr ⟨_, rfl, rfl, .inl ⟨⟨_, _, _, rfl, rfl, rfl, rfl⟩, Do.loadN (cs := [.int .i64 200, .slice A30 ([(([97] : List UInt8), ([98] : List UInt8))]).length C31, .slice A35 ([120] : List UInt8).length C36, .bool true]) tf_agg42 rfl rfl (cellsOwn 3 0 0 rfl rfl rfl)⟩⟩, trivial⟩, rfl, rfl, by kernel_rfl, _, rfl, rfl, ⟨_, _, _, rfl, rfl, rfl, rfl⟩, _, Do.call tf_body44 rfl ab_ok, ?_⟩
  rintro _ _ ⟨⟨A61, C62, l63, s64, o65⟩, ⟨A66, C67, l68, s69, o70⟩, hx71, hx72, rfl, rfl⟩
  obtain rfl : [(([97] : List UInt8), ([98] : List UInt8))] = l63 := hx71.symm
  obtain rfl : ([120] : List UInt8) = l68 := hx72.symm
  refine ⟨[(5, .bool (decide ((⟨200, [(([97] : List UInt8), ([98] : List UInt8))], ([120] : List UInt8), true⟩ : RespV) = ⟨200, [(([97] : List UInt8), ([98] : List UInt8))], ([120] : List UInt8), true⟩))), (6, .bool (decide ((⟨200, [(([97] : List UInt8), ([98] : List UInt8))], ([120] : List UInt8), true⟩ : RespV) = ⟨200, [(([97] : List UInt8), ([98] : List UInt8))], ([120] : List UInt8), true⟩))), (7, .bool true), (8, .int .i64 45), (9, .slice A13 abB.length C14), (10, .int .i64 (abB.length : Int)), (11, .bool (decide (45 = (abB.length : Int)))), (12, .bool (decide (45 = (abB.length : Int)))), (13, .bool true), (14, .int .i64 0), (15, .bool true), (16, .bool true), (17, .bool true)], rfl, ?_⟩
  refine ⟨⟨.inr ⟨_, rfl, rfl, .inl ⟨⟨_, _, _, rfl, rfl, rfl, rfl⟩, Do.call tf_body41 rfl (sameresp_ok (st := 200) (fs := [(([97] : List UInt8), ([98] : List UInt8))]) (b := ([120] : List UInt8)) (kp := true) (st2 := 200) (gs := [(([97] : List UInt8), ([98] : List UInt8))]) (c := ([120] : List UInt8)) (kp2 := true) (o34.rd (i := 6) rfl) (o39.rd (i := 7) rfl) (o65.rd (i := 0) rfl) (o70.rd (i := 1) rfl))⟩⟩, .inr ⟨_, rfl, rfl, .inl ⟨rfl, Do.pickT rfl rfl⟩⟩, .inr ⟨_, rfl, rfl, .inl ⟨rfl, Do.asBool (Do.move rfl) (decide_eq_true rfl)⟩⟩, .inr ⟨_, rfl, rfl, .inl ⟨⟨_, _, _, rfl, rfl, rfl, rfl⟩, Do.move rfl⟩⟩, .inr ⟨_, rfl, rfl, .inl ⟨⟨_, _, _, rfl, rfl, rfl, rfl⟩, Do.move rfl⟩⟩, .inr ⟨_, rfl, rfl, .inl ⟨⟨_, _, _, rfl, rfl, rfl, rfl⟩, Do.lenL Tryz.underlying22 rfl⟩⟩, .inr ⟨_, rfl, rfl, .inl ⟨⟨_, _, _, rfl, rfl, rfl, rfl⟩, Do.eqi rfl rfl⟩⟩, .inr ⟨_, rfl, rfl, .inl ⟨rfl, Do.pickT rfl rfl⟩⟩, .inr ⟨_, rfl, rfl, .inl ⟨rfl, Do.asBool (Do.move rfl) (decide_eq_true rfl)⟩⟩, .inr ⟨_, rfl, rfl, .inl ⟨⟨_, _, _, rfl, rfl, rfl, rfl⟩, Do.move rfl⟩⟩, .inr ⟨_, rfl, rfl, .inl ⟨⟨_, _, _, rfl, rfl, rfl, rfl⟩, Do.asBool (Do.eqi rfl rfl) (by decide)⟩⟩, .inr ⟨_, rfl, rfl, .inl ⟨rfl, Do.pickT rfl rfl⟩⟩, .inr ⟨_, rfl, rfl, .inl ⟨rfl, Do.assign rfl⟩⟩, .inl (by kernel_rfl), .inl (by kernel_rfl), .inl (by kernel_rfl), .inr ⟨_, rfl, rfl, .inl ⟨⟨_, _, _, rfl, rfl, rfl, rfl⟩, Do.loadN (cs := [.int .i64 200, .slice A30 ([(([97] : List UInt8), ([98] : List UInt8))]).length C31, .slice A35 ([120] : List UInt8).length C36, .bool true]) tf_agg42 rfl rfl (cellsOwn 5 0 0 rfl rfl rfl)⟩⟩, trivial⟩, by kernel_rfl, ?_⟩
  refine At.mono (E' := [(6, .slice A55 nfB.length C56), (8, .bool true)]) ⟨rfl, rfl, trivial⟩ ?_
  refine At.seq ?_
  refine At.region ?_
  refine AtL.move (.inl rfl) rfl rfl ?_
  refine AtL.strOf (o59.rd (i := 2) rfl) Tryz.underlying22 Tryz.underlying5 Tryz.underlying9 (.inl rfl) rfl rfl ?_
  refine AtL.eqs (a := nfB) (b := [72, 84, 84, 80, 47, 49, 46, 49, 32, 52, 48, 52, 32, 78, 111, 116, 32, 70, 111, 117, 110, 100, 13, 10, 67, 111, 110, 116, 101, 110, 116, 45, 84, 121, 112, 101, 58, 32, 116, 101, 120, 116, 47, 112, 108, 97, 105, 110, 13, 10, 67, 111, 110, 116, 101, 110, 116, 45, 76, 101, 110, 103, 116, 104, 58, 32, 49, 48, 13, 10, 67, 111, 110, 110, 101, 99, 116, 105, 111, 110, 58, 32, 99, 108, 111, 115, 101, 13, 10, 13, 10, 78, 111, 116, 32, 70, 111, 117, 110, 100, 10]) (.inl rfl) rfl rfl rfl ?_
  refine AtL.assign (.inl rfl) rfl rfl ?_
  refine AtL.done ?_
  have hnfb : decide (nfB = [72, 84, 84, 80, 47, 49, 46, 49, 32, 52, 48, 52, 32, 78, 111, 116, 32, 70, 111, 117, 110, 100, 13, 10, 67, 111, 110, 116, 101, 110, 116, 45, 84, 121, 112, 101, 58, 32, 116, 101, 120, 116, 47, 112, 108, 97, 105, 110, 13, 10, 67, 111, 110, 116, 101, 110, 116, 45, 76, 101, 110, 103, 116, 104, 58, 32, 49, 48, 13, 10, 67, 111, 110, 110, 101, 99, 116, 105, 111, 110, 58, 32, 99, 108, 111, 115, 101, 13, 10, 13, 10, 78, 111, 116, 32, 70, 111, 117, 110, 100, 10]) = true := decide_eq_true rfl
  rw [hnfb]
  refine At.seq ?_
  refine At.region ?_
  refine AtL.build (cs := [.int .i64 201, .slice none 0 0, .slice none 0 0, .bool false]) tf_lay42 (.inl rfl) rfl rfl rfl ?_
  refine AtL.call tf_body42 (.inl rfl) rfl rfl (rwrite_okP (st := 201) (fs := []) (b := []) (kp := false) Rd.nil_ Rd.nil_ (by first | exact sb3 | (intro f hf; cases hf)) T10) ?_
  rintro _ _ ⟨⟨A85, C86, l87, s88, o89⟩, hx90, rfl, rfl⟩
  obtain rfl : respL ⟨201, [], [], false⟩ = l87 := hx90.symm
  refine AtL.move (.inl rfl) rfl rfl ?_
  refine AtL.extract (.inl rfl) rfl rfl rfl ?_
  refine AtL.extract (.inl rfl) rfl rfl rfl ?_
  refine AtL.assign (.inl rfl) rfl rfl ?_
  refine AtL.assign (.inl rfl) rfl rfl ?_
  refine AtL.done ?_
  refine At.seq ?_
  refine At.region ?_
  refine AtL.build (cs := [str [67, 111, 110, 110, 101, 99, 116, 105, 111, 110], str [97]]) tf_lay52 (.inl rfl) rfl rfl rfl ?_
  refine AtL.buildSlice (cs := [str [67, 111, 110, 110, 101, 99, 116, 105, 111, 110], str [97]]) Tryz.underlying33 tf_zero52 tf_sz52 rfl rfl (.inl rfl) rfl rfl rfl ?_
  intro b91
  refine AtL.own1 tyField (l := ([(([67, 111, 110, 110, 101, 99, 116, 105, 111, 110] : List UInt8), ([97] : List UInt8))] : List (List UInt8 × List UInt8))) rfl rfl (by first | decide | simp) ?_
  intro s92 o93
  refine AtL.build (cs := [.int .i64 200, .slice (some ⟨b91, 0, none⟩) ([(([67, 111, 110, 110, 101, 99, 116, 105, 111, 110] : List UInt8), ([97] : List UInt8))]).length 1, .slice none 0 0, .bool false]) tf_lay42 (.inl rfl) rfl rfl rfl ?_
  refine AtL.call tf_body42 (.inl rfl) rfl rfl (rwrite_okP (st := 200) (fs := [(([67, 111, 110, 110, 101, 99, 116, 105, 111, 110] : List UInt8), ([97] : List UInt8))]) (b := []) (kp := false) (o93.rd (i := 0) rfl) Rd.nil_ (by first | exact sb3 | (intro f hf; cases hf)) T10) ?_
  rintro _ _ ⟨⟨A94, C95, l96, s97, o98⟩, hx99, rfl, rfl⟩
  obtain rfl : respL ⟨200, [(([67, 111, 110, 110, 101, 99, 116, 105, 111, 110] : List UInt8), ([97] : List UInt8))], [], false⟩ = l96 := hx99.symm
  refine AtL.move (.inl rfl) rfl rfl ?_
  refine AtL.extract (.inl rfl) rfl rfl rfl ?_
  refine AtL.extract (.inl rfl) rfl rfl rfl ?_
  refine AtL.assign (.inl rfl) rfl rfl ?_
  refine AtL.assign (.inl rfl) rfl rfl ?_
  refine AtL.done ?_
  refine At.seq ?_
  refine At.region ?_
  refine AtL.call tf_body39 (.inl rfl) rfl rfl (read_n0 T ET T10) ?_
  rintro _ _ ⟨⟨A100, C101, l102, s103, o104⟩, ⟨A105, C106, l107, s108, o109⟩, hx110, hx111, rfl, rfl⟩
  obtain rfl : ([] : List Fld) = l102 := hx110.symm
  obtain rfl : ([] : List UInt8) = l107 := hx111.symm
  refine AtL.move (.inl rfl) rfl rfl ?_
  refine AtL.extract (.inl rfl) rfl rfl rfl ?_
  refine AtL.extract (.inl rfl) rfl rfl rfl ?_
  refine AtL.extract (.inl rfl) rfl rfl rfl ?_
  refine AtL.alloc tf_zero42 (cs := #[.int .i64 0, .slice none 0 0, .slice none 0 0, .bool false]) rfl (.inl rfl) rfl ?_
  intro b112
  refine AtL.store (H' := [(b112, .cells #[.int .i64 0, .slice A100 ([] : List Fld).length C101, .slice A105 ([] : List UInt8).length C106, .bool false] 42 (0, 0))] :: s103 :: s108 :: s97 :: s92 :: s88 :: s64 :: s69 :: s58 :: s46 :: s51 :: [(b42, .cells #[.int .i64 200, .slice A30 ([(([97] : List UInt8), ([98] : List UInt8))]).length C31, .slice A35 ([120] : List UInt8).length C36, .bool true] 42 (0, 0))] :: s33 :: s38 :: s24 :: s28 :: s16 :: s4 :: s9 :: H) 0 0 tf_sz42 (.inl rfl) rfl rfl rfl rfl rfl rfl rfl rfl rfl ?_
  refine AtL.assign (.inl rfl) rfl rfl ?_
  refine AtL.assign (.inl rfl) rfl rfl ?_
  refine AtL.done ?_
  refine At.seq ?_
  refine At.region ?_
  refine AtL.call tf_body39 (.inl rfl) rfl rfl (read_n1 T ET T10) ?_
  rintro _ _ ⟨⟨A113, C114, l115, s116, o117⟩, ⟨A118, C119, l120, s121, o122⟩, hx123, hx124, rfl, rfl⟩
  obtain rfl : ([] : List Fld) = l115 := hx123.symm
  obtain rfl : ([] : List UInt8) = l120 := hx124.symm
  refine AtL.move (.inl rfl) rfl rfl ?_
  refine AtL.extract (.inl rfl) rfl rfl rfl ?_
  refine AtL.extract (.inl rfl) rfl rfl rfl ?_
  refine AtL.extract (.inl rfl) rfl rfl rfl ?_
  refine AtL.alloc tf_zero42 (cs := #[.int .i64 0, .slice none 0 0, .slice none 0 0, .bool false]) rfl (.inl rfl) rfl ?_
  intro b125
  refine AtL.store (H' := [(b125, .cells #[.int .i64 0, .slice A113 ([] : List Fld).length C114, .slice A118 ([] : List UInt8).length C119, .bool false] 42 (0, 0))] :: s116 :: s121 :: [(b112, .cells #[.int .i64 0, .slice A100 ([] : List Fld).length C101, .slice A105 ([] : List UInt8).length C106, .bool false] 42 (0, 0))] :: s103 :: s108 :: s97 :: s92 :: s88 :: s64 :: s69 :: s58 :: s46 :: s51 :: [(b42, .cells #[.int .i64 200, .slice A30 ([(([97] : List UInt8), ([98] : List UInt8))]).length C31, .slice A35 ([120] : List UInt8).length C36, .bool true] 42 (0, 0))] :: s33 :: s38 :: s24 :: s28 :: s16 :: s4 :: s9 :: H) 0 0 tf_sz42 (.inl rfl) rfl rfl rfl rfl rfl rfl rfl rfl rfl ?_
  refine AtL.assign (.inl rfl) rfl rfl ?_
  refine AtL.assign (.inl rfl) rfl rfl ?_
  refine AtL.done ?_
  refine At.seq ?_
  refine At.region ?_
  refine AtL.call tf_body38 (.inl rfl) rfl rfl (awake15_ok T10) ?_
  rintro _ _ ⟨rfl, rfl⟩
  refine AtL.move (.inl rfl) rfl rfl ?_
  refine AtL.move (.inr ⟨_, _, _, rfl, rfl, rfl, rfl⟩) rfl rfl ?_
  refine AtL.pickT (.inl rfl) rfl rfl rfl ?_
  refine AtL.move (.inl rfl) rfl rfl ?_
  refine AtL.move (.inr ⟨_, _, _, rfl, rfl, rfl, rfl⟩) rfl rfl ?_
  refine AtL.pickT (.inl rfl) rfl rfl rfl ?_
  refine AtL.move (.inl rfl) rfl rfl ?_
  refine AtL.move (.inr ⟨_, _, _, rfl, rfl, rfl, rfl⟩) rfl rfl ?_
  refine AtL.eqi (.inr ⟨_, _, _, rfl, rfl, rfl, rfl⟩) rfl rfl rfl ?_
  refine AtL.pickT (.inl rfl) rfl rfl rfl ?_
  refine AtL.move (.inl rfl) rfl rfl ?_
  refine AtL.join 3 (E' := [(95, .bool (decide (((respE ⟨201, [], [], false⟩ : Int) = 2) ∧ ((respE ⟨200, [(([67, 111, 110, 110, 101, 99, 116, 105, 111, 110] : List UInt8), ([97] : List UInt8))], [], false⟩) = 2)))), (16, .int .i64 4), (19, .int .i64 5)]) (H' := [(b125, .cells #[.int .i64 0, .slice A113 ([] : List Fld).length C114, .slice A118 ([] : List UInt8).length C119, .bool false] 42 (0, 0))] :: s116 :: s121 :: [(b112, .cells #[.int .i64 0, .slice A100 ([] : List Fld).length C101, .slice A105 ([] : List UInt8).length C106, .bool false] 42 (0, 0))] :: s103 :: s108 :: s97 :: s92 :: s88 :: s64 :: s69 :: s58 :: s46 :: s51 :: [(b42, .cells #[.int .i64 200, .slice A30 ([(([97] : List UInt8), ([98] : List UInt8))]).length C31, .slice A35 ([120] : List UInt8).length C36, .bool true] 42 (0, 0))] :: s33 :: s38 :: s24 :: s28 :: s16 :: s4 :: s9 :: H) (fun J => ?_) ?_
  · refine AtL.split (t := 92) rfl ?_ ?_
    · intro hs92
      have hs92 : (respE ⟨201, [], [], false⟩ : Int) = 2 := of_decide_eq_true hs92
      refine AtL.move (.inr ⟨_, _, _, rfl, rfl, rfl, rfl⟩) rfl rfl ?_
      refine AtL.eqi (.inr ⟨_, _, _, rfl, rfl, rfl, rfl⟩) rfl rfl rfl ?_
      refine AtL.pickT (.inl rfl) rfl rfl rfl ?_
      exact J _ (by exact ⟨(boolIs (by clear J; first | (simp [hs92]; done) | (simp_all; done) | grind)), rfl, rfl, trivial⟩)
    · intro hs92
      have hs92 : ¬ ((respE ⟨201, [], [], false⟩ : Int) = 2) := of_decide_eq_false hs92
      refine AtL.skipped rfl rfl rfl rfl rfl rfl ?_
      refine AtL.skipped rfl rfl rfl rfl rfl rfl ?_
      refine AtL.pickF (.inl rfl) rfl rfl rfl ?_
      exact J _ (by exact ⟨(boolIs (by clear J; first | (simp [hs92]; done) | (simp_all; done) | grind)), rfl, rfl, trivial⟩)
  · skip
    refine AtL.move (.inl rfl) rfl rfl ?_
    refine AtL.join 3 (E' := [(99, .bool (decide (((respE ⟨201, [], [], false⟩ : Int) = 2) ∧ ((respE ⟨200, [(([67, 111, 110, 110, 101, 99, 116, 105, 111, 110] : List UInt8), ([97] : List UInt8))], [], false⟩) = 2)))), (19, .int .i64 5)]) (H' := [(b125, .cells #[.int .i64 0, .slice A113 ([] : List Fld).length C114, .slice A118 ([] : List UInt8).length C119, .bool false] 42 (0, 0))] :: s116 :: s121 :: [(b112, .cells #[.int .i64 0, .slice A100 ([] : List Fld).length C101, .slice A105 ([] : List UInt8).length C106, .bool false] 42 (0, 0))] :: s103 :: s108 :: s97 :: s92 :: s88 :: s64 :: s69 :: s58 :: s46 :: s51 :: [(b42, .cells #[.int .i64 200, .slice A30 ([(([97] : List UInt8), ([98] : List UInt8))]).length C31, .slice A35 ([120] : List UInt8).length C36, .bool true] 42 (0, 0))] :: s33 :: s38 :: s24 :: s28 :: s16 :: s4 :: s9 :: H) (fun J => ?_) ?_
    · refine AtL.split (t := 96) rfl ?_ ?_
      · intro hs96
        have hs96 : ((respE ⟨201, [], [], false⟩ : Int) = 2) ∧ ((respE ⟨200, [(([67, 111, 110, 110, 101, 99, 116, 105, 111, 110] : List UInt8), ([97] : List UInt8))], [], false⟩) = 2) := of_decide_eq_true hs96
        refine AtL.move (.inr ⟨_, _, _, rfl, rfl, rfl, rfl⟩) rfl rfl ?_
        refine AtL.eqi (.inr ⟨_, _, _, rfl, rfl, rfl, rfl⟩) rfl rfl rfl ?_
        refine AtL.pickT (.inl rfl) rfl rfl rfl ?_
        exact J _ (by exact ⟨(boolIs (by clear J; first | (simp [hs96]; done) | (simp_all; done) | grind)), rfl, trivial⟩)
      · intro hs96
        have hs96 : ¬ (((respE ⟨201, [], [], false⟩ : Int) = 2) ∧ ((respE ⟨200, [(([67, 111, 110, 110, 101, 99, 116, 105, 111, 110] : List UInt8), ([97] : List UInt8))], [], false⟩) = 2)) := of_decide_eq_false hs96
        refine AtL.skipped rfl rfl rfl rfl rfl rfl ?_
        refine AtL.skipped rfl rfl rfl rfl rfl rfl ?_
        refine AtL.pickF (.inl rfl) rfl rfl rfl ?_
        exact J _ (by exact ⟨(boolIs (by clear J; first | (simp [hs96]; done) | (simp_all; done) | grind)), rfl, trivial⟩)
    · skip
      refine AtL.move (.inl rfl) rfl rfl ?_
      refine AtL.join 3 (E' := [(103, .bool (decide (((respE ⟨201, [], [], false⟩ : Int) = 2) ∧ ((respE ⟨200, [(([67, 111, 110, 110, 101, 99, 116, 105, 111, 110] : List UInt8), ([97] : List UInt8))], [], false⟩) = 2))))]) (H' := [(b125, .cells #[.int .i64 0, .slice A113 ([] : List Fld).length C114, .slice A118 ([] : List UInt8).length C119, .bool false] 42 (0, 0))] :: s116 :: s121 :: [(b112, .cells #[.int .i64 0, .slice A100 ([] : List Fld).length C101, .slice A105 ([] : List UInt8).length C106, .bool false] 42 (0, 0))] :: s103 :: s108 :: s97 :: s92 :: s88 :: s64 :: s69 :: s58 :: s46 :: s51 :: [(b42, .cells #[.int .i64 200, .slice A30 ([(([97] : List UInt8), ([98] : List UInt8))]).length C31, .slice A35 ([120] : List UInt8).length C36, .bool true] 42 (0, 0))] :: s33 :: s38 :: s24 :: s28 :: s16 :: s4 :: s9 :: H) (fun J => ?_) ?_
      · refine AtL.split (t := 100) rfl ?_ ?_
        · intro hs100
          have hs100 : ((respE ⟨201, [], [], false⟩ : Int) = 2) ∧ ((respE ⟨200, [(([67, 111, 110, 110, 101, 99, 116, 105, 111, 110] : List UInt8), ([97] : List UInt8))], [], false⟩) = 2) := of_decide_eq_true hs100
          refine AtL.move (.inr ⟨_, _, _, rfl, rfl, rfl, rfl⟩) rfl rfl ?_
          refine AtL.eqi (.inr ⟨_, _, _, rfl, rfl, rfl, rfl⟩) rfl rfl rfl ?_
          refine AtL.pickT (.inl rfl) rfl rfl rfl ?_
          exact J _ (by exact ⟨(boolIs (by clear J; first | (simp [hs100]; done) | (simp_all; done) | grind)), trivial⟩)
        · intro hs100
          have hs100 : ¬ (((respE ⟨201, [], [], false⟩ : Int) = 2) ∧ ((respE ⟨200, [(([67, 111, 110, 110, 101, 99, 116, 105, 111, 110] : List UInt8), ([97] : List UInt8))], [], false⟩) = 2)) := of_decide_eq_false hs100
          refine AtL.skipped rfl rfl rfl rfl rfl rfl ?_
          refine AtL.skipped rfl rfl rfl rfl rfl rfl ?_
          refine AtL.pickF (.inl rfl) rfl rfl rfl ?_
          exact J _ (by exact ⟨(boolIs (by clear J; first | (simp [hs100]; done) | (simp_all; done) | grind)), trivial⟩)
      · skip
        refine AtL.assign (.inl rfl) rfl rfl ?_
        refine AtL.done ?_
        refine At.pick (H' := H) [] 22 rfl rfl ?_
        exact At.ret Tryz.func7 rfl rfl (⟨by first | rfl | (rw [rk_201, rk_con]; rfl), rfl⟩)

end Go.Proofs.YtlfkoimkojbghaaGreatDoor
