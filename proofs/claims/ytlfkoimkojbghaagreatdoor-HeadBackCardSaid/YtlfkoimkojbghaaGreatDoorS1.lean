/- The statements of heads: examples. -/
import Derived.Test.YtlfkoimkojbghaaGreatDoorK2
namespace Go.Proofs.YtlfkoimkojbghaaGreatDoor
set_option linter.unusedVariables false
set_option linter.unusedSimpArgs false
set_option maxRecDepth 100000

/-- The lines, by so many steps at most. -/
def linesG : Nat → List UInt8 → Option (List (List UInt8))
  | 0, _ => none
  | n + 1, b => match cutCR b with
    | none => none
    | some (l, r) => if l.any crlf then none else if l = [] then (if r = [] then some [] else none) else (linesG n r).map (l :: ·)
theorem linesG_eq (n : Nat) (b : List UInt8) (h : b.length < n) : linesF b = linesG n b := by
  induction n generalizing b with
  | zero => omega
  | succ n ih =>
    rw [linesF, linesG]
    split
    · rename_i h1; simp only [h1]
    · rename_i l r h1
      simp only [h1]
      have := congrArg List.length (cutCR_len h1)
      simp at this
      rw [ih r (by omega)]
def parseG (b : List UInt8) : HeadV × Int :=
  if 4096 < b.length then (.zero, 431)
  else match linesG (b.length + 1) b with
    | none => (.zero, 400)
    | some [] => (.zero, 400)
    | some (l0 :: ls) => headF l0 ls
theorem parse_eq (b : List UInt8) : parseF b = parseG b := by
  rw [parseF, parseG, linesG_eq (b.length + 1) b (by omega)]
  cases linesG (b.length + 1) b with
  | none => rfl
  | some q => cases q <;> rfl

theorem parse_known {w0 : World} {base : Nat} {H : List Seg} {A : Option Addr} {C : Nat} {b : List UInt8} {hd : HeadV} {n : Int} (hp : parseF b = (hd, n)) (h : Rd tyB w0 base H A C b) (T : Tabs w0 base) :
    SCalls Tryz.prog 57 [.slice A b.length C] w0 base H (fun v H' => ∃ x : Sl tyField 52, x.l = hd.fs ∧ v = .tuple #[.agg #[str hd.m, str hd.t, int hd.minor, .slice x.A x.l.length x.C], int n] ∧ H' = x.s :: H) := by
  refine (parse_ok h T).mono ?_
  rintro v H' ⟨x, rfl, hx, rfl⟩
  rw [hp] at hx ⊢
  exact ⟨x, hx, rfl, rfl⟩

set_option maxHeartbeats 400000 in
theorem of_ok {w0 : World} {base : Nat} {H : List Seg} (n : Int) (nm v : List UInt8) :
    SCalls Tryz.prog 49 [.int .i64 n, str nm, str v] w0 base (H) (fun u H' => ∃ x : Sl tyField 52, x.l = [(nm, v)] ∧ u = .agg #[str GET, str SLA, int n, .slice x.A x.l.length x.C] ∧ H' = x.s :: H) := by
  refine SCalls.of_walk (n := 13) Tryz.func49 rfl rfl rfl fun cs => ?_
  refine At.seq ?_
  refine At.region ?_
  refine AtL.alloc tf_zero35 (cs := #[str [], str [], .int .i64 0, .slice none 0 0]) rfl (.inl rfl) rfl ?_
  intro b1
  refine AtL.done ?_
  refine At.seq ?_
  refine At.region ?_
  refine AtL.move (.inl rfl) rfl rfl ?_
  refine AtL.move (.inl rfl) rfl rfl ?_
  refine AtL.move (.inl rfl) rfl rfl ?_
  refine AtL.build (cs := [str nm, str v]) tf_lay52 (.inl rfl) rfl rfl rfl ?_
  refine AtL.buildSlice (cs := [str nm, str v]) Tryz.underlying33 tf_zero52 tf_sz52 rfl rfl (.inl rfl) rfl rfl rfl ?_
  intro b2
  refine AtL.own1 tyField (l := ([(nm, v)] : List (List UInt8 × List UInt8))) rfl rfl (by first | decide | simp) ?_
  intro s3 o4
  refine AtL.build (cs := [str [71, 69, 84], str [47, 97], .int .i64 n, .slice (some ⟨b2, 0, none⟩) [(nm, v)].length 1]) tf_lay35 (.inl rfl) rfl rfl rfl ?_
  refine AtL.store (H' := s3 :: [(b1, .cells #[str [71, 69, 84], str [47, 97], .int .i64 n, .slice (some ⟨b2, 0, none⟩) [(nm, v)].length 1] 35 (0, 0))] :: H) 1 0 tf_sz35 (.inl rfl) rfl rfl rfl rfl rfl rfl rfl rfl rfl ?_
  refine AtL.done ?_
  exact At.retMP (vs := [.agg #[str [71, 69, 84], str [47, 97], .int .i64 n, .slice (some ⟨b2, 0, none⟩) [(nm, v)].length 1]]) (H2 := s3 :: H) [0] 2 rfl rfl Tryz.func49 rfl ⟨⟨_, rfl, LoadsTo.agg (cs := [str [71, 69, 84], str [47, 97], .int .i64 n, .slice (some ⟨b2, 0, none⟩) [(nm, v)].length 1]) tf_agg35 rfl (cellsOwn 1 0 0 rfl rfl rfl)⟩, trivial⟩ (⟨⟨(some ⟨b2, 0, none⟩), 1, [(nm, v)], s3, o4⟩, rfl, rfl, rfl⟩)

set_option maxHeartbeats 400000 in
theorem status_ok {w0 : World} {base : Nat} {H : List Seg} {b : List UInt8} (hl : b.length ≤ 140737488355000) (T : Tabs w0 base) :
    SCalls Tryz.prog 56 [str b] w0 base (H) (fun v H' => v = int (parseF b).2 ∧ H' = H) := by
  refine SCalls.of_walk (n := 12) Tryz.func56 rfl rfl rfl fun cs => ?_
  refine At.seq ?_
  refine At.region ?_
  refine AtL.assign (.inl rfl) rfl rfl ?_
  refine AtL.done ?_
  refine At.seq ?_
  refine At.region ?_
  refine AtL.move (.inl rfl) rfl rfl ?_
  refine AtL.bytesOf (l := b) Tryz.underlying9 Tryz.underlying22 Tryz.underlying5 (by first | omega | (simp only [List.length_append, List.length_cons, List.length_nil]; omega) | (simp; done) | (simp; omega)) (.inl rfl) rfl rfl ?_
  intro A1 C2 s3 n5 o4
  refine AtL.call tf_body57 (.inl rfl) rfl rfl (parse_ok (b := b) (o4.rd (i := 0) rfl) T) ?_
  rintro _ _ ⟨⟨A6, C7, l8, s9, o10⟩, rfl, hx11, rfl⟩
  obtain rfl : (parseF b).1.fs = l8 := hx11.symm
  refine AtL.move (.inl rfl) rfl rfl ?_
  refine AtL.extract (.inl rfl) rfl rfl rfl ?_
  refine AtL.extract (.inl rfl) rfl rfl rfl ?_
  refine AtL.alloc tf_zero35 (cs := #[str [], str [], .int .i64 0, .slice none 0 0]) rfl (.inl rfl) rfl ?_
  intro b12
  refine AtL.store (H' := [(b12, .cells #[str ((parseF b).1.m), str ((parseF b).1.t), .int .i64 ((parseF b).1.minor), .slice A6 ((parseF b).1.fs).length C7] 35 (0, 0))] :: s9 :: s3 :: H) 0 0 tf_sz35 (.inl rfl) rfl rfl rfl rfl rfl rfl rfl rfl rfl ?_
  refine AtL.assign (.inl rfl) rfl rfl ?_
  refine AtL.done ?_
  refine At.seq ?_
  refine At.region ?_
  refine AtL.move (.inl rfl) rfl rfl ?_
  refine AtL.assign (.inl rfl) rfl rfl ?_
  refine AtL.done ?_
  refine At.pick (H' := H) [] 3 rfl rfl ?_
  exact At.ret Tryz.func56 rfl rfl (⟨rfl, rfl⟩)

theorem status_known {w0 : World} {base : Nat} {H : List Seg} {b : List UInt8} {hd : HeadV} {n : Int} (hp : parseF b = (hd, n)) (hl : b.length ≤ 140737488355000) (T : Tabs w0 base) : SCalls Tryz.prog 56 [str b] w0 base H (fun v H' => v = int n ∧ H' = H) := by
  have := status_ok (H := H) hl T
  rw [hp] at this
  exact this

theorem pk1 : parseF [71, 69, 84, 32, 47, 97, 32, 72, 84, 84, 80, 47, 49, 46, 49, 13, 10, 72, 111, 115, 116, 58, 32, 120, 13, 10, 13, 10] = (⟨GET, SLA, 1, [([72, 111, 115, 116], [120])]⟩, 200) := by rw [parse_eq]; decide +kernel

theorem pk2 : parseF [71, 69, 84, 32, 47, 97, 32, 72, 84, 84, 80, 47, 49, 46, 49, 13, 10, 13, 10] = (HeadV.zero, 400) := by rw [parse_eq]; decide +kernel

theorem pk3 : parseF [71, 69, 84, 32, 47, 97, 32, 72, 84, 84, 80, 47, 50, 46, 48, 13, 10, 13, 10] = (HeadV.zero, 505) := by rw [parse_eq]; decide +kernel

set_option maxHeartbeats 400000 in
theorem awake_ok {w0 : World} {base : Nat} {H : List Seg} (T : Tabs w0 base) :
    SCalls Tryz.prog 31 [] w0 base (H) (fun v H' => v = .bool true ∧ H' = H) := by
  refine SCalls.of_walk (n := 24) Tryz.func31 rfl rfl rfl fun cs => ?_
  refine At.seq ?_
  refine At.region ?_
  refine AtL.assign (.inl rfl) rfl rfl ?_
  refine AtL.done ?_
  refine At.seq ?_
  refine At.region ?_
  refine AtL.buildSlice (cs := [.int .u8 71, .int .u8 69, .int .u8 84, .int .u8 32, .int .u8 47, .int .u8 97, .int .u8 32, .int .u8 72, .int .u8 84, .int .u8 84, .int .u8 80, .int .u8 47, .int .u8 49, .int .u8 46, .int .u8 49, .int .u8 13, .int .u8 10, .int .u8 72, .int .u8 111, .int .u8 115, .int .u8 116, .int .u8 58, .int .u8 32, .int .u8 120, .int .u8 13, .int .u8 10, .int .u8 13, .int .u8 10]) Tryz.underlying22 tf_zero5 tf_sz5 rfl rfl (.inl rfl) rfl rfl rfl ?_
  intro b1
  refine AtL.convSl1 (l := [71, 69, 84, 32, 47, 97, 32, 72, 84, 84, 80, 47, 49, 46, 49, 13, 10, 72, 111, 115, 116, 58, 32, 120, 13, 10, 13, 10]) 0 Tryz.underlying22 Tryz.underlying5 rfl rfl rfl (by decide) (.inl rfl) rfl rfl ?_
  intro s2 o3
  refine AtL.call tf_body57 (.inl rfl) rfl rfl (parse_known (b := [71, 69, 84, 32, 47, 97, 32, 72, 84, 84, 80, 47, 49, 46, 49, 13, 10, 72, 111, 115, 116, 58, 32, 120, 13, 10, 13, 10]) pk1 (o3.rd (i := 0) rfl) T) ?_
  rintro _ _ ⟨⟨A4, C5, l6, s7, o8⟩, hx9, rfl, rfl⟩
  obtain rfl : [([72, 111, 115, 116], [120])] = l6 := hx9.symm
  refine AtL.move (.inl rfl) rfl rfl ?_
  refine AtL.extract (.inl rfl) rfl rfl rfl ?_
  refine AtL.extract (.inl rfl) rfl rfl rfl ?_
  refine AtL.alloc tf_zero35 (cs := #[str [], str [], .int .i64 0, .slice none 0 0]) rfl (.inl rfl) rfl ?_
  intro b10
  refine AtL.store (H' := [(b10, .cells #[str GET, str SLA, .int .i64 1, .slice A4 ([([72, 111, 115, 116], [120])]).length C5] 35 (0, 0))] :: s7 :: s2 :: H) 0 0 tf_sz35 (.inl rfl) rfl rfl rfl rfl rfl rfl rfl rfl rfl ?_
  refine AtL.assign (.inl rfl) rfl rfl ?_
  refine AtL.done ?_
  refine At.seq ?_
  refine At.draw (es := [4]) (pv := [(0, .int .i64 200), (1, .bool true), (2, .bool true), (3, .agg #[str GET, str SLA, .int .i64 1, .slice A4 ([([72, 111, 115, 116], [120])]).length C5])]) tf_mixed (by kernel_rfl) (by kernel_rfl) (by kernel_rfl) ?_
  refine ⟨⟨.inr ⟨_, rfl, rfl, .inl ⟨rfl, Do.move rfl⟩⟩, .inr ⟨_, rfl, rfl, .inl ⟨rfl, Do.asBool (Do.eqi rfl rfl) (by decide)⟩⟩, .inr ⟨_, rfl, rfl, .inl ⟨rfl, Do.move rfl⟩⟩, .inr ⟨_, rfl, rfl, .inl ⟨⟨_, _, _, rfl, rfl, rfl, rfl⟩, Do.loadN (cs := [str GET, str SLA, .int .i64 1, .slice A4 ([([72, 111, 115, 116], [120])]).length C5]) tf_agg35 rfl rfl (cellsOwn 0 0 0 rfl rfl rfl)⟩⟩, trivial⟩, rfl, rfl, by kernel_rfl, _, rfl, rfl, ⟨_, _, _, rfl, rfl, rfl, rfl⟩, _, Do.call tf_body49 rfl (of_ok 1 [72, 111, 115, 116] [120]), ?_⟩
  rintro _ _ ⟨⟨A11, C12, l13, s14, o15⟩, hx16, rfl, rfl⟩
  obtain rfl : [(([72, 111, 115, 116] : List UInt8), ([120] : List UInt8))] = l13 := hx16.symm
  refine ⟨[(5, .bool true), (6, .bool true), (7, .bool true), (8, .int .i64 400), (9, .bool true), (10, .bool true), (11, .bool true), (12, .int .i64 505), (13, .bool true), (14, .bool true), (15, .bool true)], rfl, ?_⟩
  refine ⟨⟨.inr ⟨_, rfl, rfl, .inl ⟨⟨_, _, _, rfl, rfl, rfl, rfl⟩, Do.asBool (Do.call tf_body37 rfl (samehead_ok (m := GET) (t := SLA) (minor := 1) (m2 := GET) (t2 := SLA) (minor2 := 1) (fs := [([72, 111, 115, 116], [120])]) (gs := [(([72, 111, 115, 116] : List UInt8), ([120] : List UInt8))]) (o8.rd (i := 2) rfl) (o15.rd (i := 0) rfl))) (decide_eq_true rfl)⟩⟩, .inr ⟨_, rfl, rfl, .inl ⟨rfl, Do.pickT rfl rfl⟩⟩, .inr ⟨_, rfl, rfl, .inl ⟨rfl, Do.move rfl⟩⟩, .inr ⟨_, rfl, rfl, .inl ⟨⟨_, _, _, rfl, rfl, rfl, rfl⟩, Do.call tf_body56 rfl (status_known (b := [71, 69, 84, 32, 47, 97, 32, 72, 84, 84, 80, 47, 49, 46, 49, 13, 10, 13, 10]) pk2 (by decide) T)⟩⟩, .inr ⟨_, rfl, rfl, .inl ⟨⟨_, _, _, rfl, rfl, rfl, rfl⟩, Do.asBool (Do.eqi rfl rfl) (by decide)⟩⟩, .inr ⟨_, rfl, rfl, .inl ⟨rfl, Do.pickT rfl rfl⟩⟩, .inr ⟨_, rfl, rfl, .inl ⟨rfl, Do.move rfl⟩⟩, .inr ⟨_, rfl, rfl, .inl ⟨⟨_, _, _, rfl, rfl, rfl, rfl⟩, Do.call tf_body56 rfl (status_known (b := [71, 69, 84, 32, 47, 97, 32, 72, 84, 84, 80, 47, 50, 46, 48, 13, 10, 13, 10]) pk3 (by decide) T)⟩⟩, .inr ⟨_, rfl, rfl, .inl ⟨⟨_, _, _, rfl, rfl, rfl, rfl⟩, Do.asBool (Do.eqi rfl rfl) (by decide)⟩⟩, .inr ⟨_, rfl, rfl, .inl ⟨rfl, Do.pickT rfl rfl⟩⟩, .inr ⟨_, rfl, rfl, .inl ⟨rfl, Do.assign rfl⟩⟩, .inl (by kernel_rfl), .inl (by kernel_rfl), .inl (by kernel_rfl), .inr ⟨_, rfl, rfl, .inl ⟨⟨_, _, _, rfl, rfl, rfl, rfl⟩, Do.loadN (cs := [str GET, str SLA, .int .i64 1, .slice A4 ([([72, 111, 115, 116], [120])]).length C5]) tf_agg35 rfl rfl (cellsOwn 1 0 0 rfl rfl rfl)⟩⟩, trivial⟩, by kernel_rfl, ?_⟩
  refine At.mono (E' := [(0, .bool true)]) ⟨rfl, trivial⟩ ?_
  refine At.pick (H' := H) [] 4 rfl rfl ?_
  exact At.ret Tryz.func31 rfl rfl (⟨rfl, rfl⟩)

end Go.Proofs.YtlfkoimkojbghaaGreatDoor
