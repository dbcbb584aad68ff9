/- Responses: the builder, lines. -/
import Derived.Lib.ItoaNum
import Derived.Test.YtlkdmbpbjhjkfaaGreatDoorTB2
namespace Go.Proofs.YtlkdmbpbjhjkfaaGreatDoor
set_option linter.unusedVariables false
set_option linter.unusedSimpArgs false
set_option maxRecDepth 100000

theorem noesc (x : Value) (w : World) : (callFunc 156 #[x]).run Tryz.prog w = .ok (.value x) w := by
  rw [run_callFunc_extern Tryz.func156 (by kernel_rfl) (by kernel_rfl) (by kernel_rfl) (e := Extern.AbiNoEscape.same) (by kernel_rfl)]
  rfl

set_option maxHeartbeats 400000 in
theorem bchk_new {w0 : World} {base : Nat} {H : List Seg} {b : Nat} {v : Value} :
    SCalls Tryz.prog 108 [.pointer (some ⟨b, 0, none⟩)] w0 base ([(b, .cells #[.pointer none, v] 108 (0, 0))] :: H) (fun u H' => u = .tuple #[] ∧ H' = [(b, .cells #[.pointer (some ⟨b, 0, none⟩), v] 108 (0, 0))] :: H) := by
  refine SCalls.of_walk (n := 20) Tryz.func108 rfl rfl rfl fun cs => ?_
  refine At.seq ?_
  refine At.region ?_
  refine AtL.move (.inl rfl) rfl rfl ?_
  refine AtL.nilCheck (.inl rfl) rfl rfl ?_
  refine AtL.fieldAddrB tf_fo108_0 (.inl rfl) rfl rfl rfl ?_
  refine AtL.load tf_flat106 (.inl rfl) rfl rfl (Cell.own 0 0 rfl rfl rfl) ?_
  refine AtL.eqPtrNil Tryz.underlying106 (.inl rfl) rfl rfl rfl ?_
  refine AtL.done ?_
  refine At.condT rfl ?_
  refine At.region ?_
  refine AtL.move (.inl rfl) rfl rfl ?_
  refine AtL.move (.inl rfl) rfl rfl ?_
  refine AtL.toUnsafe (n := 2) 0 0 Tryz.underlying106 Tryz.underlying194 tf_sz108 (by decide) (.inl rfl) rfl rfl rfl (by simp) rfl ?_
  refine AtL.callX (v := .pointer (some ⟨b, 0, none⟩)) (fun w S => noesc _ w) (.inl rfl) rfl rfl ?_
  refine AtL.fromUnsafe 0 0 Tryz.underlying194 Tryz.underlying106 tf_sz108 (.inl rfl) rfl rfl rfl (by kernel_rfl) rfl ?_
  refine AtL.nilCheck (.inl rfl) rfl rfl ?_
  refine AtL.fieldAddrB tf_fo108_0 (.inl rfl) rfl rfl rfl ?_
  refine AtL.store (H' := [(b, .cells #[.pointer (some ⟨b, 0, none⟩), v] 108 (0, 0))] :: H) 0 0 tf_sz106 (.inl rfl) rfl rfl rfl rfl rfl rfl rfl rfl rfl ?_
  refine AtL.done ?_
  exact At.end_ Tryz.func108 rfl rfl (⟨rfl, rfl⟩)

set_option maxHeartbeats 400000 in
theorem bchk_old {w0 : World} {base : Nat} {H : List Seg} {b : Nat} {v : Value} :
    SCalls Tryz.prog 108 [.pointer (some ⟨b, 0, none⟩)] w0 base ([(b, .cells #[.pointer (some ⟨b, 0, none⟩), v] 108 (0, 0))] :: H) (fun u H' => u = .tuple #[] ∧ H' = [(b, .cells #[.pointer (some ⟨b, 0, none⟩), v] 108 (0, 0))] :: H) := by
  refine SCalls.of_walk (n := 20) Tryz.func108 rfl rfl rfl fun cs => ?_
  refine At.seq ?_
  refine At.region ?_
  refine AtL.move (.inl rfl) rfl rfl ?_
  refine AtL.nilCheck (.inl rfl) rfl rfl ?_
  refine AtL.fieldAddrB tf_fo108_0 (.inl rfl) rfl rfl rfl ?_
  refine AtL.load tf_flat106 (.inl rfl) rfl rfl (Cell.own 0 0 rfl rfl rfl) ?_
  refine AtL.eqPtrNil Tryz.underlying106 (.inl rfl) rfl rfl rfl ?_
  refine AtL.done ?_
  refine At.condF rfl ?_
  refine At.seq ?_
  refine At.region ?_
  refine AtL.move (.inl rfl) rfl rfl ?_
  refine AtL.nilCheck (.inl rfl) rfl rfl ?_
  refine AtL.fieldAddrB tf_fo108_0 (.inl rfl) rfl rfl rfl ?_
  refine AtL.load tf_flat106 (.inl rfl) rfl rfl (Cell.own 0 0 rfl rfl rfl) ?_
  refine AtL.move (.inl rfl) rfl rfl ?_
  refine AtL.nePtrSame (n := 2) Tryz.underlying106 tf_sz108 (by decide) (.inl rfl) rfl rfl rfl ?_
  refine AtL.done ?_
  refine At.condF rfl ?_
  refine At.skip ?_
  exact At.end_ Tryz.func108 rfl rfl (⟨rfl, rfl⟩)

/-- What a builder holds of its own place. -/
def bown (b : Nat) (p : Value) : Prop := p = .pointer none ∨ p = .pointer (some ⟨b, 0, none⟩)
theorem bchk_ok {w0 : World} {base : Nat} {H : List Seg} {b : Nat} {p v : Value} (h : bown b p) : SCalls Tryz.prog 108 [.pointer (some ⟨b, 0, none⟩)] w0 base ([(b, .cells #[p, v] 108 (0, 0))] :: H) (fun u H' => u = .tuple #[] ∧ H' = [(b, .cells #[.pointer (some ⟨b, 0, none⟩), v] 108 (0, 0))] :: H) := by
  rcases h with rfl | rfl
  · exact bchk_new
  · exact bchk_old

set_option maxHeartbeats 400000 in
theorem bwrite_ok {w0 : World} {base : Nat} {H : List Seg} {b : Nat} {p : Value} (hp : bown b p) {x : Sl tyB 5} {v : List UInt8} (hl : x.l.length + v.length ≤ 140737488355328) :
    SCalls Tryz.prog 64 [.pointer (some ⟨b, 0, none⟩), str v] w0 base (x.s :: [(b, .cells #[p, .slice x.A x.l.length x.C] 108 (0, 0))] :: H) (fun u H' => ∃ y : Sl tyB 5, y.l = x.l ++ v ∧ u = .tuple #[int (v.length : Int), .nilIface] ∧ H' = y.s :: [(b, .cells #[.pointer (some ⟨b, 0, none⟩), .slice y.A y.l.length y.C] 108 (0, 0))] :: H) := by
  refine SCalls.of_walk (n := 19) Tryz.func64 rfl rfl rfl fun cs => ?_
  refine At.seq ?_
  refine At.region ?_
  refine AtL.assign (.inl rfl) rfl rfl ?_
  refine AtL.assign (.inl rfl) rfl rfl ?_
  refine AtL.done ?_
  refine At.seq ?_
  refine At.region ?_
  refine AtL.move (.inl rfl) rfl rfl ?_
  refine AtL.pick (H' := [(b, .cells #[p, .slice x.A x.l.length x.C] 108 (0, 0))] :: x.s :: H) [1, 0] 2 rfl rfl ?_
  refine AtL.call tf_body108 (.inl rfl) rfl rfl (bchk_ok hp) ?_
  rintro _ _ ⟨rfl, rfl⟩
  refine AtL.done ?_
  refine At.seq ?_
  refine At.region ?_
  refine AtL.move (.inl rfl) rfl rfl ?_
  refine AtL.move (.inl rfl) rfl rfl ?_
  refine AtL.nilCheck (.inl rfl) rfl rfl ?_
  refine AtL.fieldAddrB tf_fo108_1 (.inl rfl) rfl rfl rfl ?_
  refine AtL.load tf_flat22 (.inl rfl) rfl rfl (Cell.own 0 0 rfl rfl rfl) ?_
  refine AtL.move (.inl rfl) rfl rfl ?_
  refine AtL.appendS (l := x.l) (news := v) 1 tf_el22 Tryz.underlying9 rfl x.own (by omega) (.inl rfl) rfl rfl rfl ?_
  intro A1 C2 s3 o4
  refine AtL.nilCheck (.inl rfl) rfl rfl ?_
  refine AtL.fieldAddrB tf_fo108_1 (.inl rfl) rfl rfl rfl ?_
  refine AtL.store (H' := [(b, .cells #[.pointer (some ⟨b, 0, none⟩), .slice A1 (x.l ++ v).length C2] 108 (0, 0))] :: s3 :: H) 0 0 tf_sz22 (.inl rfl) rfl rfl rfl rfl rfl rfl rfl rfl rfl ?_
  refine AtL.done ?_
  refine At.seq ?_
  refine At.region ?_
  refine AtL.move (.inl rfl) rfl rfl ?_
  refine AtL.lenS (l := v) Tryz.underlying9 (.inl rfl) rfl rfl ?_
  refine AtL.assign (.inl rfl) rfl rfl ?_
  refine AtL.assign (.inl rfl) rfl rfl ?_
  refine AtL.done ?_
  refine At.pick (H' := s3 :: [(b, .cells #[.pointer (some ⟨b, 0, none⟩), .slice A1 (x.l ++ v).length C2] 108 (0, 0))] :: H) [1, 0] 2 rfl rfl ?_
  exact At.ret Tryz.func64 rfl rfl (⟨⟨A1, C2, x.l ++ v, s3, o4⟩, rfl, rfl, rfl⟩)

set_option maxHeartbeats 400000 in
theorem bstring_ok {w0 : World} {base : Nat} {H : List Seg} {b : Nat} {p : Value} {a : Addr} {C : Nat} {l : List UInt8} {s : Seg} (o : Own tyB 5 (some a) C l s) (h0 : l ≠ []) (hl0 : l.length ≠ 0) (hC : C ≠ 0) :
    SCalls Tryz.prog 66 [.pointer (some ⟨b, 0, none⟩)] w0 base (s :: [(b, .cells #[p, .slice (some a) l.length C] 108 (0, 0))] :: H) (fun u H' => ∃ s', u = str l ∧ H' = s' :: H) := by
  refine SCalls.of_walk (n := 14) Tryz.func66 rfl rfl rfl fun cs => ?_
  refine At.seq ?_
  refine At.region ?_
  refine AtL.assign (.inl rfl) rfl rfl ?_
  refine AtL.done ?_
  refine At.seq ?_
  refine At.draw (es := [10]) (pv := [(0, .pointer (some ⟨b, 0, none⟩)), (1, .pointer (some ⟨b, 0, none⟩)), (2, .pointer (some ⟨b, 1, none⟩)), (3, .slice (some a) l.length C), (4, .pointer (some a)), (5, .pointer (some ⟨b, 0, none⟩)), (6, .pointer (some ⟨b, 0, none⟩)), (7, .pointer (some ⟨b, 1, none⟩)), (8, .slice (some a) l.length C), (9, .int .i64 (l.length : Int))]) tf_mixed (by kernel_rfl) (by kernel_rfl) (by kernel_rfl) ?_
  refine ⟨⟨.inr ⟨_, rfl, rfl, .inl ⟨rfl, Do.move rfl⟩⟩, .inr ⟨_, rfl, rfl, .inl ⟨rfl, Do.nilCheck rfl⟩⟩, .inr ⟨_, rfl, rfl, .inl ⟨rfl, Do.fieldAddrB tf_fo108_1 rfl rfl⟩⟩, .inr ⟨_, rfl, rfl, .inl ⟨rfl, Do.load tf_flat22 rfl (Cell.own 1 0 rfl rfl rfl)⟩⟩, .inr ⟨_, rfl, rfl, .inl ⟨rfl, Do.sliceData hC rfl⟩⟩, .inr ⟨_, rfl, rfl, .inl ⟨rfl, Do.move rfl⟩⟩, .inr ⟨_, rfl, rfl, .inl ⟨rfl, Do.nilCheck rfl⟩⟩, .inr ⟨_, rfl, rfl, .inl ⟨rfl, Do.fieldAddrB tf_fo108_1 rfl rfl⟩⟩, .inr ⟨_, rfl, rfl, .inl ⟨rfl, Do.load tf_flat22 rfl (Cell.own 1 0 rfl rfl rfl)⟩⟩, .inr ⟨_, rfl, rfl, .inl ⟨rfl, Do.lenL Tryz.underlying22 rfl⟩⟩, trivial⟩, rfl, rfl, by kernel_rfl, _, rfl, rfl, rfl, _, Do.unsafeStr (l := l) 0 Tryz.underlying153 (by kernel_rfl) rfl o h0 rfl rfl, ?_⟩
  rintro _ _ ⟨s1, rfl, rfl⟩
  refine ⟨[(11, str l)], rfl, ?_⟩
  refine ⟨⟨.inr ⟨_, rfl, rfl, .inl ⟨rfl, Do.assign rfl⟩⟩, .inl (by kernel_rfl), .inl (by kernel_rfl), .inl (by kernel_rfl), .inl (by kernel_rfl), .inl (by kernel_rfl), .inl (by kernel_rfl), .inl (by kernel_rfl), .inl (by kernel_rfl), .inl (by kernel_rfl), .inl (by kernel_rfl), trivial⟩, by kernel_rfl, ?_⟩
  refine At.mono (E' := [(2, str l)]) ⟨rfl, trivial⟩ ?_
  refine At.pick (H' := s1 :: H) [0] 2 rfl rfl ?_
  exact At.ret Tryz.func66 rfl rfl (⟨_, rfl, rfl⟩)

theorem bstr_ok {w0 : World} {base : Nat} {H : List Seg} {b : Nat} {p : Value} {x : Sl tyB 5} (h0 : x.l ≠ []) : SCalls Tryz.prog 66 [.pointer (some ⟨b, 0, none⟩)] w0 base (x.s :: [(b, .cells #[p, .slice x.A x.l.length x.C] 108 (0, 0))] :: H) (fun u H' => ∃ s', u = str x.l ∧ H' = s' :: H) := by
  obtain ⟨A, C, l, s, o⟩ := x
  have hl0 : l.length ≠ 0 := fun h => h0 (List.eq_nil_of_length_eq_zero h)
  have hle := o.le_cap
  cases A with
  | none =>
    obtain ⟨r, _, h⟩ := o
    rcases h with ⟨_, h, _⟩ | ⟨_, _, _, _, h, _⟩
    · exact absurd h h0
    · cases h
  | some a =>
    have hC : C ≠ 0 := by have := hle; omega
    exact bstring_ok o h0 hl0 hC

/-- The table of powers of ten, as the program lays it. -/
structure Tab10 (w0 : World) (base : Nat) : Prop where
  lt : 1 < base
  var : Lib.TabIs Tryz.prog w0 "internal/strconv.uint64pow10" .u64 Lib.pow10Tab
theorem Tab10.at {w0 : World} {base : Nat} {w : World} {H : List Seg} (T : Tab10 w0 base) (S : Sep w0 base w H) : Lib.TabIs Tryz.prog w "internal/strconv.uint64pow10" .u64 Lib.pow10Tab := by
  have h := T.var
  have hg : Tryz.prog.globalNamed "internal/strconv.uint64pow10" = some 1 := by kernel_rfl
  have hb := S.below.block _ T.lt
  unfold Lib.TabIs World.var? at h ⊢
  rw [hg] at h ⊢
  simp only [Option.bind_some] at h ⊢
  rw [hb]; exact h
theorem decF_dig (n : Nat) : decF n = Lib.decDigits n := by
  induction n using Nat.strongRecOn with
  | _ n ih =>
    rw [decF, Lib.decDigits]
    by_cases h : n < 10
    · rw [if_pos h, dif_pos h]
    · rw [if_neg h, dif_neg h, ih (n / 10) (by omega)]
theorem below_grow {w : World} {k : Nat} {os : Array Obj} : Go.RowKit.Below w.heap.size w (Go.Sort.grow (w.drewN k) os) :=
  ⟨rfl, rfl, rfl, by simp [Go.Sort.grow], fun j hj => by
    show (w.heap ++ os)[j]? = _
    rw [Array.getElem?_append_left hj]⟩
theorem itoa_any {w0 : World} {base : Nat} {H : List Seg} {n : Int} (h0 : 0 ≤ n) (h1 : n ≤ 9223372036854775807) (T : Tab10 w0 base) : SCalls Tryz.prog 42 [int n] w0 base H (fun v H' => v = str (decF n.toNat) ∧ H' = H) := by
  refine SCalls.of_below fun w S => ?_
  refine (Tryz.strconv_Itoa n (by omega) h1 w (T.at S)).mono ?_
  rintro e w' ⟨he, k, os, rfl⟩
  refine ⟨?_, below_grow⟩
  rw [he, decF_dig, Lib.itoa, if_neg (by omega)]
  rfl
theorem decF_len (n : Nat) (h : n ≤ 1073741824) : (decF n).length ≤ 10 := by
  refine (decF_num n).2.2 9 ?_
  have h2 : (10 : Nat) ^ 10 = 10000000000 := by decide
  omega

theorem itoa_nat {w0 : World} {base : Nat} {H : List Seg} (n : Nat) (h1 : n ≤ 9223372036854775807) (T : Tab10 w0 base) : SCalls Tryz.prog 42 [int (n : Int)] w0 base H (fun v H' => v = str (decF n) ∧ H' = H) :=
  itoa_any (n := (n : Int)) (by omega) (by omega) T

theorem flat_take_le2 (ls : List (List UInt8)) (k : Nat) : ((ls.take k).flatten).length ≤ (ls.flatten).length := by
  conv => rhs; rw [← List.take_append_drop k ls, List.flatten_append, List.length_append]
  omega
theorem take_flat {ls : List (List UInt8)} {k : Nat} (h : k < ls.length) : (ls.take k).flatten ++ ls.getD k [] = (ls.take (k + 1)).flatten := by
  rw [List.take_succ_eq_append_getElem h, List.flatten_append]
  simp [List.getD, h]
theorem get_flat {ls : List (List UInt8)} {k : Nat} (h : k < ls.length) : ((ls.take k).flatten).length + (ls.getD k []).length ≤ (ls.flatten).length := by
  have := flat_take_le2 ls (k + 1)
  rw [← take_flat h, List.length_append] at this; exact this

set_option maxHeartbeats 400000 in
theorem line_ok {w0 : World} {base : Nat} {H : List Seg} {b : Nat} {p : Value} (hp : bown b p) {x : Sl tyB 5} {A : Option Addr} {C : Nat} {ls : List (List UInt8)} (h : Rd tyS w0 base H A C ls) (hl : x.l.length + (ls.flatten).length + 2 ≤ 140737488355328) :
    SCalls Tryz.prog 63 [.slice A ls.length C, .pointer (some ⟨b, 0, none⟩)] w0 base (x.s :: [(b, .cells #[p, .slice x.A x.l.length x.C] 108 (0, 0))] :: H) (fun u H' => ∃ y : Sl tyB 5, y.l = x.l ++ (ls.flatten ++ [13, 10]) ∧ u = .tuple #[] ∧ H' = y.s :: [(b, .cells #[.pointer (some ⟨b, 0, none⟩), .slice y.A y.l.length y.C] 108 (0, 0))] :: H) := by
  have hle0 := h.le
  have hcap0 := h.cap
  refine SCalls.of_walk (n := 15) Tryz.func63 rfl rfl rfl fun cs => ?_
  refine At.seq ?_
  refine At.seq ?_
  refine At.region ?_
  refine AtL.move (.inl rfl) rfl rfl ?_
  refine AtL.lenL Tryz.underlying109 (.inl rfl) rfl rfl ?_
  refine AtL.move (.inl rfl) rfl rfl ?_
  refine AtL.done ?_
  refine At.block ?_
  refine At.loop3 (fun (k : Nat) (y : Sl tyB 5) (q : Value) => [(1, .pointer (some ⟨b, 0, none⟩)), (5, .slice A ls.length C), (6, .int .i64 (ls.length : Int)), (7, .int .i64 (k : Int))]) (fun (k : Nat) (y : Sl tyB 5) (q : Value) => y.s :: [(b, .cells #[q, .slice y.A y.l.length y.C] 108 (0, 0))] :: H) (fun (k : Nat) (y : Sl tyB 5) (q : Value) => k ≤ ls.length ∧ y.l = x.l ++ (ls.take k).flatten ∧ bown b q) (fun (k : Nat) (y : Sl tyB 5) (q : Value) => ls.length - k) 0 x p (⟨Nat.zero_le _, by simp, hp⟩) ⟨rfl, rfl, rfl, rfl, trivial⟩ rfl ?_
  rintro k y q ⟨hk, hy, hq⟩ ihL1
  have hyl : y.l.length = x.l.length + ((ls.take k).flatten).length := by rw [hy, List.length_append]
  have hfl := flat_take_le2 ls k
  refine At.seq ?_
  refine At.region ?_
  refine AtL.lss (.inl rfl) rfl rfl rfl ?_
  refine AtL.done ?_
  refine At.seq ?_
  refine At.cond rfl ?_ ?_
  · intro hc1
    have hc1 : (k : Int) < (ls.length : Int) := of_decide_eq_true hc1
    have hgf := get_flat (ls := ls) (k := k) (by omega)
    refine At.skip ?_
    refine At.seq ?_
    refine At.block ?_
    refine At.seq ?_
    refine At.region ?_
    refine AtL.indexL k (Rd.skip 2 h) Tryz.underlying109 tf_sz9 (.inl rfl) rfl rfl rfl rfl (by omega) ?_
    refine AtL.load (v := str (ls.getD k [])) tf_flat9 (.inl rfl) rfl rfl (Rd.cell0 (Rd.skip 2 h) (getD_some [] (by omega)) rfl) ?_
    refine AtL.assign (.inl rfl) rfl rfl ?_
    refine AtL.done ?_
    refine At.region ?_
    refine AtL.move (.inl rfl) rfl rfl ?_
    refine AtL.call tf_body64 (.inl rfl) rfl rfl (bwrite_ok hq (x := y) (v := (ls.getD k [])) (by first | omega | (simp only [List.length_append, List.length_cons, List.length_nil]; omega))) ?_
    rintro _ _ ⟨⟨A1, C2, l3, s4, o5⟩, hx6, rfl, rfl⟩
    obtain rfl : y.l ++ (ls.getD k []) = l3 := hx6.symm
    refine AtL.done ?_
    refine At.inBlock ?_
    refine At.region ?_
    refine AtL.add (z := (k : Int) + 1) (.inl rfl) rfl rfl rfl (w64 (by omega) (by omega)) ?_
    refine AtL.move (.inl rfl) rfl rfl ?_
    refine AtL.done ?_
    refine ihL1 (k + 1) (⟨A1, C2, y.l ++ (ls.getD k []), s4, o5⟩) (.pointer (some ⟨b, 0, none⟩)) (⟨by omega, by dsimp only; rw [hy, List.append_assoc, take_flat (by omega)], .inr rfl⟩) (by omega) _ ?_
    exact ⟨rfl, rfl, rfl, (by first | rfl | exact slLen (by simp []) | exact intEq (by omega) | exact intEq (by simp []) | exact slLen (by simp []; omega)), trivial⟩
  · intro hc1
    have hc1 : ¬ ((k : Int) < (ls.length : Int)) := of_decide_eq_false hc1
    rw [List.take_of_length_le (by omega)] at hy
    refine At.exit rfl ?_
    refine At.region ?_
    refine AtL.call tf_body64 (.inl rfl) rfl rfl (bwrite_ok hq (x := y) (v := [13, 10]) (by first | omega | (simp only [List.length_append, List.length_cons, List.length_nil]; omega))) ?_
    rintro _ _ ⟨⟨A7, C8, l9, s10, o11⟩, hx12, rfl, rfl⟩
    obtain rfl : y.l ++ [13, 10] = l9 := hx12.symm
    refine AtL.done ?_
    exact At.end_ Tryz.func63 rfl rfl (⟨⟨A7, C8, y.l ++ [13, 10], s10, o11⟩, by dsimp only; rw [hy, List.append_assoc], rfl, rfl⟩)

theorem resp_bad {r : RespV} (h : ¬ respE r = 0) : respE r = 2 ∧ respL r = [] := by
  unfold respE respL at *
  split
  · rename_i h2; rw [if_pos h2] at h; exact absurd rfl h
  · exact ⟨rfl, rfl⟩
theorem resp_good {r : RespV} (h : respE r = 0) : respL r = respB r ∧ 200 ≤ r.st ∧ r.st ≤ 505 ∧ r.fs.length ≤ 16 ∧ r.body.length ≤ 65535 ∧ sumF r.fs ≤ 4096 := by
  have ho := respE_ok h
  refine ⟨by rw [respL, if_pos ho], ?_⟩
  simp only [okR, Bool.and_eq_true, decide_eq_true_eq] at ho
  obtain ⟨⟨⟨⟨h1, h2⟩, h3⟩, _⟩, h5⟩ := ho
  have := reason_200 h1
  exact ⟨this.1, this.2, h2, h3, h5⟩

theorem stB_line (st : Int) : ([[72, 84, 84, 80, 47, 49, 46, 49, 32], decF st.toNat, [32], reasonF st] : List (List UInt8)).flatten ++ [13, 10] = stB st := by simp [stB, H11]
theorem lenB_line (n : Nat) : ([[67, 111, 110, 116, 101, 110, 116, 45, 76, 101, 110, 103, 116, 104, 58, 32], decF n] : List (List UInt8)).flatten ++ [13, 10] = lenB n := by simp [lenB, CLN]
theorem fld_line (f : Fld) : ([f.1, [58, 32], f.2] : List (List UInt8)).flatten ++ [13, 10] = f.1 ++ ([58, 32] ++ (f.2 ++ [13, 10])) := by simp
theorem ccl_line : ([[67, 111, 110, 110, 101, 99, 116, 105, 111, 110, 58, 32, 99, 108, 111, 115, 101]] : List (List UInt8)).flatten ++ [13, 10] = CCL ++ [13, 10] := by decide
theorem nil_line : ([] : List (List UInt8)).flatten ++ [13, 10] = [13, 10] := rfl
theorem stB_len (st : Int) (h : (decF st.toNat).length ≤ 10) : (stB st).length ≤ 62 := by
  have := reasonF_len st
  simp only [stB, H11, List.length_append, List.length_cons, List.length_nil]; omega
theorem lenB_len (n : Nat) (h : (decF n).length ≤ 10) : (lenB n).length ≤ 28 := by
  simp only [lenB, CLN, List.length_append, List.length_cons, List.length_nil]; omega
theorem fields_upto {fs : List Fld} (k : Nat) : (fieldsR (fs.take k)).length ≤ (fieldsR fs).length := by
  rw [fieldsR_len, fieldsR_len]
  have h1 := sumF_take fs k
  have h2 : (fs.take k).length ≤ fs.length := by rw [List.length_take]; omega
  omega
theorem fields_at {fs : List Fld} {k : Nat} (h : k < fs.length) : (fieldsR (fs.take k)).length + (((fs.getD k (([], []) : List UInt8 × List UInt8)).1 ++ ([58, 32] ++ ((fs.getD k (([], []) : List UInt8 × List UInt8)).2 ++ [13, 10]))).length) ≤ (fieldsR fs).length := by
  have := fields_upto (fs := fs) (k + 1)
  rw [fieldsR_snoc fs k h, List.length_append] at this; exact this

set_option maxHeartbeats 1000000 in
theorem rwrite_okP {w0 : World} {base : Nat} {H : List Seg} {st : Int} {A A2 : Option Addr} {C C2 : Nat} {fs : List (List UInt8 × List UInt8)} {b : List UInt8} {kp : Bool} (h : Rd tyField w0 base H A C fs) (h2 : Rd tyB w0 base H A2 C2 b) (hb : ∀ f ∈ fs, f.1.length ≤ 140737488355000 ∧ f.2.length ≤ 140737488355000) (T10 : Tab10 w0 base) :
    SCalls Tryz.prog 43 [.agg #[.int .i64 st, .slice A fs.length C, .slice A2 b.length C2, .bool kp]] w0 base (H) (fun v H' => ∃ x : Sl tyB 5, x.l = respL ⟨st, fs, b, kp⟩ ∧ v = .tuple #[.slice x.A x.l.length x.C, int (respE ⟨st, fs, b, kp⟩)] ∧ H' = x.s :: H) := by
  have hle0 := h.le
  have hcap0 := h.cap
  have hle2 := h2.le
  have hcap2 := h2.cap
  refine SCalls.of_walk (n := 59) Tryz.func43 rfl rfl rfl fun cs => ?_
  refine At.seq ?_
  refine At.region ?_
  refine AtL.box (cs := #[.int .i64 st, .slice A fs.length C, .slice A2 b.length C2, .bool kp]) rfl (.inl rfl) rfl rfl ?_
  intro b1
  refine AtL.assign (.inl rfl) rfl rfl ?_
  refine AtL.assign (.inl rfl) rfl rfl ?_
  refine AtL.done ?_
  refine At.seq ?_
  refine At.seq ?_
  refine At.region ?_
  refine AtL.loadN (cs := [.int .i64 st, .slice A fs.length C, .slice A2 b.length C2, .bool kp]) tf_agg74 (.inl rfl) rfl rfl rfl (cellsOwn 0 0 0 rfl rfl rfl) ?_
  refine AtL.call tf_body62 (.inl rfl) rfl rfl (rchk_ok0 (st := st) (fs := fs) (b := b) (kp := kp) (Rd.skip 1 h) (Rd.skip 1 h2) hb) ?_
  rintro _ _ ⟨rfl, rfl⟩
  refine AtL.assign (.inl rfl) rfl rfl ?_
  refine AtL.done ?_
  refine At.seq ?_
  refine At.region ?_
  refine AtL.move (.inl rfl) rfl rfl ?_
  refine AtL.nei (.inl rfl) rfl rfl rfl ?_
  refine AtL.done ?_
  refine At.cond rfl ?_ ?_
  · intro hc1
    have hc1 : ¬ ((respE ⟨st, fs, b, kp⟩ : Int) = 0) := of_decide_eq_false (bnot_true hc1)
    refine At.seq ?_
    refine At.region ?_
    refine AtL.move (.inl rfl) rfl rfl ?_
    refine AtL.assign (.inl rfl) rfl rfl ?_
    refine AtL.assign (.inl rfl) rfl rfl ?_
    refine AtL.done ?_
    obtain ⟨he2, hl0⟩ := resp_bad (r := ⟨st, fs, b, kp⟩) hc1
    refine At.nil ?_
    refine At.pick (H' := [] :: H) [0] 2 rfl rfl ?_
    exact At.ret Tryz.func43 rfl rfl (⟨Sl.nil, by rw [hl0]; rfl, by rw [he2]; rfl, rfl⟩)
  · intro hc1
    have hc1 : (respE ⟨st, fs, b, kp⟩ : Int) = 0 := of_decide_eq_true (bnot_false hc1)
    have he0 : respE ⟨st, fs, b, kp⟩ = 0 := by simpa using hc1
    obtain ⟨hgL, hg1, hg2, hg3, hg4, hg5⟩ := resp_good he0
    dsimp only at hg1 hg2 hg3 hg4 hg5
    have hdl := decF_len st.toNat (by omega)
    have hdb := decF_len b.length (by omega)
    have hrl := reasonF_len st
    have hsl := stB_len st hdl
    have hll := lenB_len b.length hdb
    have hfsl : (fieldsR fs).length ≤ 5000 := by rw [fieldsR_len]; omega
    refine At.skip ?_
    refine At.seq ?_
    refine At.region ?_
    refine AtL.alloc tf_zero108 (cs := #[.pointer none, .slice none 0 0]) rfl (.inl rfl) rfl ?_
    intro b2
    refine AtL.done ?_
    refine At.seq ?_
    refine At.region ?_
    refine AtL.makeFunc (.inl rfl) rfl rfl rfl ?_
    refine AtL.assign (.inl rfl) rfl rfl ?_
    refine AtL.done ?_
    refine At.nil ?_
    refine At.seq ?_
    refine At.draw (es := [7, 8]) (pv := [(0, .func (.func 63) #[] #[.pointer (some ⟨b2, 0, none⟩)]), (1, .pointer (some ⟨b1, 0, none⟩)), (2, .int .i64 st), (3, str (decF (Int.toNat st))), (4, .pointer (some ⟨b1, 0, none⟩)), (5, .int .i64 st), (6, str (reasonF st))]) tf_mixed (by kernel_rfl) (by kernel_rfl) (by kernel_rfl) ?_
    refine ⟨⟨.inr ⟨_, rfl, rfl, .inl ⟨rfl, Do.move rfl⟩⟩, .inr ⟨_, rfl, rfl, .inl ⟨rfl, Do.fieldAddrB tf_fo74_0 rfl rfl⟩⟩, .inr ⟨_, rfl, rfl, .inl ⟨rfl, Do.load tf_flat3 rfl (Cell.own 2 0 rfl rfl rfl)⟩⟩, .inr ⟨_, rfl, rfl, .inl ⟨rfl, Do.call tf_body42 rfl (itoa_any (n := st) (by omega) (by omega) T10)⟩⟩, .inr ⟨_, rfl, rfl, .inl ⟨rfl, Do.fieldAddrB tf_fo74_0 rfl rfl⟩⟩, .inr ⟨_, rfl, rfl, .inl ⟨rfl, Do.load tf_flat3 rfl (Cell.own 2 0 rfl rfl rfl)⟩⟩, .inr ⟨_, rfl, rfl, .inl ⟨rfl, Do.call tf_body65 rfl (reason_ok st)⟩⟩, trivial⟩, rfl, rfl, by kernel_rfl, _, rfl, rfl, rfl, _, Do.own1 tyS (l := ([[72, 84, 84, 80, 47, 49, 46, 49, 32], decF (Int.toNat st), [32], reasonF st] : List (List UInt8))) (Do.buildSlice (cs := [str [72, 84, 84, 80, 47, 49, 46, 49, 32], str (decF (Int.toNat st)), str [32], str (reasonF st)]) Tryz.underlying109 tf_zero9 tf_sz9 rfl rfl rfl rfl) rfl rfl (by first | decide | simp), ?_⟩
    rintro _ _ ⟨b3, s4, o5, rfl, rfl⟩
    refine ⟨[], rfl, ?_⟩
    refine ⟨⟨.inr ⟨_, rfl, rfl, .inl ⟨rfl, Do.move rfl⟩⟩, .inl (by kernel_rfl), .inl (by kernel_rfl), .inl (by kernel_rfl), .inl (by kernel_rfl), .inl (by kernel_rfl), .inl (by kernel_rfl), trivial⟩, rfl, rfl, by kernel_rfl, _, rfl, rfl, rfl, _, Does.pick (H' := [] :: [(b2, .cells #[.pointer none, .slice none 0 0] 108 (0, 0))] :: s4 :: [(b1, .cells #[.int .i64 st, .slice A fs.length C, .slice A2 b.length C2, .bool kp] 74 (0, 0))] :: H) [1, 2, 0, 3] 4 rfl rfl (Do.callV tf_body63 rfl rfl rfl (line_ok (.inl rfl) (x := Sl.nil) (ls := [[72, 84, 84, 80, 47, 49, 46, 49, 32], decF (Int.toNat st), [32], reasonF st]) (o5.rd (i := 0) rfl) (by have hq := congrArg List.length (stB_line st); rw [List.length_append] at hq; first | (simp only [List.length_cons, List.length_nil, Sl.nil] at hq ⊢; omega) | (simp only [List.length_cons, List.length_nil, Sl.nil, List.length_append, CCL] at hq ⊢; omega)))), ?_⟩
    rintro _ _ ⟨⟨A6, C7, l8, s9, o10⟩, hx11, rfl, rfl⟩
    rw [stB_line st] at hx11
    obtain rfl : stB st = l8 := hx11.symm
    refine ⟨[], rfl, ?_⟩
    refine ⟨⟨.inl (by kernel_rfl), .inl (by kernel_rfl), .inl (by kernel_rfl), .inl (by kernel_rfl), .inl (by kernel_rfl), .inl (by kernel_rfl), .inl (by kernel_rfl), trivial⟩, by kernel_rfl, ?_⟩
    refine At.mono (E' := [(1, .pointer (some ⟨b1, 0, none⟩)), (5, .pointer (some ⟨b2, 0, none⟩)), (6, .func (.func 63) #[] #[.pointer (some ⟨b2, 0, none⟩)])]) ⟨rfl, rfl, rfl, trivial⟩ ?_
    refine At.seq ?_
    refine At.seq ?_
    refine At.region ?_
    refine AtL.fieldAddrB tf_fo74_1 (.inl rfl) rfl rfl rfl ?_
    refine AtL.load tf_flat45 (.inl rfl) rfl rfl (Cell.own 3 0 rfl rfl rfl) ?_
    refine AtL.lenL Tryz.underlying45 (.inl rfl) rfl rfl ?_
    refine AtL.move (.inl rfl) rfl rfl ?_
    refine AtL.done ?_
    refine At.block ?_
    refine At.pick (H' := s9 :: [(b2, .cells #[.pointer (some ⟨b2, 0, none⟩), .slice A6 (stB st).length C7] 108 (0, 0))] :: [(b1, .cells #[.int .i64 st, .slice A fs.length C, .slice A2 b.length C2, .bool kp] 74 (0, 0))] :: H) [0, 1, 3] 4 rfl rfl ?_
    refine At.loop2 (fun (k : Nat) (y : Sl tyB 5) => [(1, .pointer (some ⟨b1, 0, none⟩)), (5, .pointer (some ⟨b2, 0, none⟩)), (6, .func (.func 63) #[] #[.pointer (some ⟨b2, 0, none⟩)]), (25, .slice A fs.length C), (26, .int .i64 (fs.length : Int)), (27, .int .i64 (k : Int))]) (fun (k : Nat) (y : Sl tyB 5) => y.s :: [(b2, .cells #[.pointer (some ⟨b2, 0, none⟩), .slice y.A y.l.length y.C] 108 (0, 0))] :: [(b1, .cells #[.int .i64 st, .slice A fs.length C, .slice A2 b.length C2, .bool kp] 74 (0, 0))] :: H) (fun (k : Nat) (y : Sl tyB 5) => k ≤ fs.length ∧ y.l = stB st ++ fieldsR (fs.take k)) (fun (k : Nat) (y : Sl tyB 5) => fs.length - k) 0 (⟨A6, C7, stB st, s9, o10⟩) (⟨Nat.zero_le _, by simp [fieldsR]⟩) ⟨rfl, rfl, rfl, rfl, rfl, rfl, trivial⟩ rfl ?_
    rintro k y ⟨hk, hy⟩ ihL1
    have hyl : y.l.length = (stB st).length + (fieldsR (fs.take k)).length := by rw [hy, List.length_append]
    have hfu := fields_upto (fs := fs) k
    refine At.seq ?_
    refine At.region ?_
    refine AtL.lss (.inl rfl) rfl rfl rfl ?_
    refine AtL.done ?_
    refine At.seq ?_
    refine At.cond rfl ?_ ?_
    · intro hc2
      have hc2 : (k : Int) < (fs.length : Int) := of_decide_eq_true hc2
      have hfa := fields_at (fs := fs) (k := k) (by omega)
      have hbk := hb _ (getD_mem (l := fs) (i := k) (d := (([], []) : List UInt8 × List UInt8)) (by omega))
      refine At.skip ?_
      refine At.seq ?_
      refine At.block ?_
      refine At.seq ?_
      refine At.region ?_
      refine AtL.indexL k (Rd.skip 3 h) Tryz.underlying45 tf_sz78 (.inl rfl) rfl rfl rfl rfl (by omega) ?_
      refine AtL.loadE (n := 0) (Rd.skip 3 h) (getD_some (([], []) : List UInt8 × List UInt8) (by omega)) rfl tf_agg78 (.inl rfl) rfl rfl ?_
      refine AtL.alloc tf_zero78 (cs := #[str [], str []]) rfl (.inl rfl) rfl ?_
      intro b21
      refine AtL.store (H' := [(b21, .cells #[str ((fs.getD k (([], []) : List UInt8 × List UInt8)).1), str ((fs.getD k (([], []) : List UInt8 × List UInt8)).2)] 78 (0, 0))] :: y.s :: [(b2, .cells #[.pointer (some ⟨b2, 0, none⟩), .slice y.A y.l.length y.C] 108 (0, 0))] :: [(b1, .cells #[.int .i64 st, .slice A fs.length C, .slice A2 b.length C2, .bool kp] 74 (0, 0))] :: H) 0 0 tf_sz78 (.inl rfl) rfl rfl rfl rfl rfl rfl rfl rfl rfl ?_
      refine AtL.done ?_
      refine At.region ?_
      refine AtL.move (.inl rfl) rfl rfl ?_
      refine AtL.fieldAddrB tf_fo78_0 (.inl rfl) rfl rfl rfl ?_
      refine AtL.load tf_flat9 (.inl rfl) rfl rfl (Cell.own 0 0 rfl rfl rfl) ?_
      refine AtL.fieldAddrB tf_fo78_1 (.inl rfl) rfl rfl rfl ?_
      refine AtL.load tf_flat9 (.inl rfl) rfl rfl (Cell.own 0 0 rfl rfl rfl) ?_
      refine AtL.buildSlice (cs := [str ((fs.getD k (([], []) : List UInt8 × List UInt8)).1), str [58, 32], str ((fs.getD k (([], []) : List UInt8 × List UInt8)).2)]) Tryz.underlying109 tf_zero9 tf_sz9 rfl rfl (.inl rfl) rfl rfl rfl ?_
      intro b22
      refine AtL.own1 tyS (l := ([(fs.getD k (([], []) : List UInt8 × List UInt8)).1, [58, 32], (fs.getD k (([], []) : List UInt8 × List UInt8)).2] : List (List UInt8))) rfl rfl (by first | decide | simp) ?_
      intro s23 o24
      refine AtL.pick (H' := y.s :: [(b2, .cells #[.pointer (some ⟨b2, 0, none⟩), .slice y.A y.l.length y.C] 108 (0, 0))] :: s23 :: [(b21, .cells #[str ((fs.getD k (([], []) : List UInt8 × List UInt8)).1), str ((fs.getD k (([], []) : List UInt8 × List UInt8)).2)] 78 (0, 0))] :: [(b1, .cells #[.int .i64 st, .slice A fs.length C, .slice A2 b.length C2, .bool kp] 74 (0, 0))] :: H) [2, 3, 0, 1, 4] 5 rfl rfl ?_
      refine AtL.callV tf_body63 (.inl rfl) rfl rfl rfl rfl (line_ok (.inr rfl) (x := y) (ls := [(fs.getD k (([], []) : List UInt8 × List UInt8)).1, [58, 32], (fs.getD k (([], []) : List UInt8 × List UInt8)).2]) (o24.rd (i := 0) rfl) (by have hq := congrArg List.length (fld_line (fs.getD k (([], []) : List UInt8 × List UInt8))); rw [List.length_append] at hq; first | (simp only [List.length_cons, List.length_nil, Sl.nil] at hq ⊢; omega) | (simp only [List.length_cons, List.length_nil, Sl.nil, List.length_append, CCL] at hq ⊢; omega))) ?_
      rintro _ _ ⟨⟨A25, C26, l27, s28, o29⟩, hx30, rfl, rfl⟩
      rw [fld_line (fs.getD k (([], []) : List UInt8 × List UInt8))] at hx30
      obtain rfl : y.l ++ ((fs.getD k (([], []) : List UInt8 × List UInt8)).1 ++ ([58, 32] ++ ((fs.getD k (([], []) : List UInt8 × List UInt8)).2 ++ [13, 10]))) = l27 := hx30.symm
      refine AtL.done ?_
      refine At.inBlock ?_
      refine At.region ?_
      refine AtL.add (z := (k : Int) + 1) (.inl rfl) rfl rfl rfl (w64 (by omega) (by omega)) ?_
      refine AtL.move (.inl rfl) rfl rfl ?_
      refine AtL.done ?_
      refine At.pick (H' := s28 :: [(b2, .cells #[.pointer (some ⟨b2, 0, none⟩), .slice A25 (y.l ++ ((fs.getD k (([], []) : List UInt8 × List UInt8)).1 ++ ([58, 32] ++ ((fs.getD k (([], []) : List UInt8 × List UInt8)).2 ++ [13, 10])))).length C26] 108 (0, 0))] :: [(b1, .cells #[.int .i64 st, .slice A fs.length C, .slice A2 b.length C2, .bool kp] 74 (0, 0))] :: H) [0, 1, 4] 5 rfl rfl ?_
      refine ihL1 (k + 1) (⟨A25, C26, y.l ++ ((fs.getD k (([], []) : List UInt8 × List UInt8)).1 ++ ([58, 32] ++ ((fs.getD k (([], []) : List UInt8 × List UInt8)).2 ++ [13, 10]))), s28, o29⟩) (⟨by omega, by dsimp only; rw [hy, fieldsR_snoc fs k (by omega), List.append_assoc]⟩) (by omega) _ ?_
      exact ⟨rfl, rfl, rfl, rfl, rfl, (by first | rfl | exact slLen (by simp []) | exact intEq (by omega) | exact intEq (by simp []) | exact slLen (by simp []; omega)), trivial⟩
    · intro hc2
      have hc2 : ¬ ((k : Int) < (fs.length : Int)) := of_decide_eq_false hc2
      rw [List.take_of_length_le (by omega)] at hy hyl
      refine At.exit rfl ?_
      refine At.seq ?_
      refine At.region ?_
      refine AtL.move (.inl rfl) rfl rfl ?_
      refine AtL.fieldAddrB tf_fo74_2 (.inl rfl) rfl rfl rfl ?_
      refine AtL.load tf_flat22 (.inl rfl) rfl rfl (Cell.own 2 0 rfl rfl rfl) ?_
      refine AtL.lenL Tryz.underlying22 (.inl rfl) rfl rfl ?_
      refine AtL.call tf_body42 (.inl rfl) rfl rfl (itoa_nat b.length (by omega) T10) ?_
      rintro _ _ ⟨rfl, rfl⟩
      refine AtL.buildSlice (cs := [str [67, 111, 110, 116, 101, 110, 116, 45, 76, 101, 110, 103, 116, 104, 58, 32], str (decF b.length)]) Tryz.underlying109 tf_zero9 tf_sz9 rfl rfl (.inl rfl) rfl rfl rfl ?_
      intro b31
      refine AtL.own1 tyS (l := ([[67, 111, 110, 116, 101, 110, 116, 45, 76, 101, 110, 103, 116, 104, 58, 32], decF b.length] : List (List UInt8))) rfl rfl (by first | decide | simp) ?_
      intro s32 o33
      refine AtL.pick (H' := y.s :: [(b2, .cells #[.pointer (some ⟨b2, 0, none⟩), .slice y.A y.l.length y.C] 108 (0, 0))] :: s32 :: [(b1, .cells #[.int .i64 st, .slice A fs.length C, .slice A2 b.length C2, .bool kp] 74 (0, 0))] :: H) [1, 2, 0, 3] 4 rfl rfl ?_
      refine AtL.callV tf_body63 (.inl rfl) rfl rfl rfl rfl (line_ok (.inr rfl) (x := y) (ls := [[67, 111, 110, 116, 101, 110, 116, 45, 76, 101, 110, 103, 116, 104, 58, 32], decF b.length]) (o33.rd (i := 0) rfl) (by have hq := congrArg List.length (lenB_line b.length); rw [List.length_append] at hq; first | (simp only [List.length_cons, List.length_nil, Sl.nil] at hq ⊢; omega) | (simp only [List.length_cons, List.length_nil, Sl.nil, List.length_append, CCL] at hq ⊢; omega))) ?_
      rintro _ _ ⟨⟨A34, C35, l36, s37, o38⟩, hx39, rfl, rfl⟩
      rw [lenB_line b.length] at hx39
      obtain rfl : y.l ++ lenB b.length = l36 := hx39.symm
      refine AtL.done ?_
      refine At.seq ?_
      refine At.seq ?_
      refine At.region ?_
      refine AtL.fieldAddrB tf_fo74_3 (.inl rfl) rfl rfl rfl ?_
      refine AtL.load tf_flat4 (.inl rfl) rfl rfl (Cell.own 3 0 rfl rfl rfl) ?_
      refine AtL.not (.inl rfl) rfl rfl ?_
      refine AtL.done ?_
      refine At.cond rfl ?_ ?_
      · intro hc3
        have hc3 : kp = false := bnot_true hc3
        refine At.region ?_
        refine AtL.move (.inl rfl) rfl rfl ?_
        refine AtL.buildSlice (cs := [str [67, 111, 110, 110, 101, 99, 116, 105, 111, 110, 58, 32, 99, 108, 111, 115, 101]]) Tryz.underlying109 tf_zero9 tf_sz9 rfl rfl (.inl rfl) rfl rfl rfl ?_
        intro b40
        refine AtL.own1 tyS (l := ([[67, 111, 110, 110, 101, 99, 116, 105, 111, 110, 58, 32, 99, 108, 111, 115, 101]] : List (List UInt8))) rfl rfl (by first | decide | simp) ?_
        intro s41 o42
        refine AtL.pick (H' := s37 :: [(b2, .cells #[.pointer (some ⟨b2, 0, none⟩), .slice A34 (y.l ++ lenB b.length).length C35] 108 (0, 0))] :: s41 :: s32 :: [(b1, .cells #[.int .i64 st, .slice A fs.length C, .slice A2 b.length C2, .bool kp] 74 (0, 0))] :: H) [1, 2, 0, 3, 4] 5 rfl rfl ?_
        refine AtL.callV tf_body63 (.inl rfl) rfl rfl rfl rfl (line_ok (.inr rfl) (x := ⟨A34, C35, y.l ++ lenB b.length, s37, o38⟩) (ls := [[67, 111, 110, 110, 101, 99, 116, 105, 111, 110, 58, 32, 99, 108, 111, 115, 101]]) (o42.rd (i := 0) rfl) (by have hq := congrArg List.length (ccl_line); rw [List.length_append] at hq; first | (simp only [List.length_cons, List.length_nil, Sl.nil] at hq ⊢; omega) | (simp only [List.length_cons, List.length_nil, Sl.nil, List.length_append, CCL] at hq ⊢; omega))) ?_
        rintro _ _ ⟨⟨A43, C44, l45, s46, o47⟩, hx48, rfl, rfl⟩
        rw [ccl_line] at hx48
        obtain rfl : (y.l ++ lenB b.length) ++ (CCL ++ [13, 10]) = l45 := hx48.symm
        refine AtL.done ?_
        refine At.seq ?_
        refine At.region ?_
        refine AtL.move (.inl rfl) rfl rfl ?_
        refine AtL.callV tf_body63 (.inl rfl) rfl rfl rfl rfl (line_ok (.inr rfl) (x := ⟨A43, C44, (y.l ++ lenB b.length) ++ (CCL ++ [13, 10]), s46, o47⟩) (ls := []) Rd.nil_ (by have hq := congrArg List.length (nil_line); rw [List.length_append] at hq; first | (simp only [List.length_cons, List.length_nil, Sl.nil] at hq ⊢; omega) | (simp only [List.length_cons, List.length_nil, Sl.nil, List.length_append, CCL] at hq ⊢; omega))) ?_
        rintro _ _ ⟨⟨A49, C50, l51, s52, o53⟩, hx54, rfl, rfl⟩
        rw [nil_line] at hx54
        obtain rfl : ((y.l ++ lenB b.length) ++ (CCL ++ [13, 10])) ++ [13, 10] = l51 := hx54.symm
        refine AtL.done ?_
        refine At.seq ?_
        refine At.draw (es := [0, 1, 4]) (pv := [(2, .pointer (some ⟨b1, 2, none⟩)), (3, .slice A2 b.length C2)]) tf_mixed (by kernel_rfl) (by kernel_rfl) (by kernel_rfl) ?_
        refine ⟨⟨.inr ⟨_, rfl, rfl, .inl ⟨rfl, Do.fieldAddrB tf_fo74_2 rfl rfl⟩⟩, .inr ⟨_, rfl, rfl, .inl ⟨rfl, Do.load tf_flat22 rfl (Cell.own 4 0 rfl rfl rfl)⟩⟩, trivial⟩, rfl, rfl, by kernel_rfl, _, rfl, rfl, rfl, _, Do.call tf_body66 rfl (bstr_ok (x := ⟨A49, C50, ((y.l ++ lenB b.length) ++ (CCL ++ [13, 10])) ++ [13, 10], s52, o53⟩) (by simp)), ?_⟩
        rintro _ _ ⟨s55, rfl, rfl⟩
        refine ⟨[], rfl, ?_⟩
        refine ⟨⟨.inr ⟨_, rfl, rfl, .inl ⟨rfl, Do.fieldAddrB tf_fo74_2 rfl rfl⟩⟩, .inr ⟨_, rfl, rfl, .inl ⟨rfl, Do.load tf_flat22 rfl (Cell.own 3 0 rfl rfl rfl)⟩⟩, trivial⟩, rfl, rfl, by kernel_rfl, _, rfl, rfl, rfl, _, Do.bytesOf (l := ((y.l ++ lenB b.length) ++ (CCL ++ [13, 10])) ++ [13, 10]) Tryz.underlying9 Tryz.underlying22 Tryz.underlying5 (by simp only [List.length_append, List.length_cons, List.length_nil, CCL] <;> omega) rfl, ?_⟩
        rintro _ _ ⟨A56, C57, s58, n60, o59, rfl, rfl⟩
        refine ⟨[], rfl, ?_⟩
        refine ⟨⟨.inr ⟨_, rfl, rfl, .inl ⟨rfl, Do.fieldAddrB tf_fo74_2 rfl rfl⟩⟩, .inr ⟨_, rfl, rfl, .inl ⟨rfl, Do.load tf_flat22 rfl (Cell.own 4 0 rfl rfl rfl)⟩⟩, trivial⟩, rfl, rfl, by kernel_rfl, _, rfl, rfl, rfl, _, Do.append (l := ((y.l ++ lenB b.length) ++ (CCL ++ [13, 10])) ++ [13, 10]) (news := b) 0 tf_el22 rfl o59 (Rd.skip 5 h2) (by simp only [List.length_append, List.length_cons, List.length_nil, CCL] <;> omega) rfl rfl, ?_⟩
        rintro _ _ ⟨A61, C62, s63, o64, rfl, rfl⟩
        refine ⟨[(5, .slice A61 ((((y.l ++ lenB b.length) ++ (CCL ++ [13, 10])) ++ [13, 10]) ++ b).length C62), (6, .int .i64 0)], rfl, ?_⟩
        refine ⟨⟨.inr ⟨_, rfl, rfl, .inl ⟨rfl, Do.assign rfl⟩⟩, .inr ⟨_, rfl, rfl, .inl ⟨rfl, Do.assign rfl⟩⟩, .inl (by kernel_rfl), .inl (by kernel_rfl), trivial⟩, by kernel_rfl, ?_⟩
        refine At.mono (E' := [(2, .slice A61 ((((y.l ++ lenB b.length) ++ (CCL ++ [13, 10])) ++ [13, 10]) ++ b).length C62), (3, .int .i64 0)]) ⟨rfl, rfl, trivial⟩ ?_
        refine At.pick (H' := s63 :: H) [0] 5 rfl rfl ?_
        exact At.ret Tryz.func43 rfl rfl (⟨⟨A61, C62, (((y.l ++ lenB b.length) ++ (CCL ++ [13, 10])) ++ [13, 10]) ++ b, s63, o64⟩, by dsimp only; rw [hgL, hy]; simp [respB, headR, endB, hc3, List.append_assoc], by rw [he0]; rfl, rfl⟩)
      · intro hc3
        have hc3 : kp = true := bnot_false hc3
        refine At.skip ?_
        refine At.seq ?_
        refine At.region ?_
        refine AtL.move (.inl rfl) rfl rfl ?_
        refine AtL.callV tf_body63 (.inl rfl) rfl rfl rfl rfl (line_ok (.inr rfl) (x := ⟨A34, C35, y.l ++ lenB b.length, s37, o38⟩) (ls := []) Rd.nil_ (by have hq := congrArg List.length (nil_line); rw [List.length_append] at hq; first | (simp only [List.length_cons, List.length_nil, Sl.nil] at hq ⊢; omega) | (simp only [List.length_cons, List.length_nil, Sl.nil, List.length_append, CCL] at hq ⊢; omega))) ?_
        rintro _ _ ⟨⟨A75, C76, l77, s78, o79⟩, hx80, rfl, rfl⟩
        rw [nil_line] at hx80
        obtain rfl : (y.l ++ lenB b.length) ++ [13, 10] = l77 := hx80.symm
        refine AtL.done ?_
        refine At.seq ?_
        refine At.draw (es := [0, 1, 4]) (pv := [(2, .pointer (some ⟨b1, 2, none⟩)), (3, .slice A2 b.length C2)]) tf_mixed (by kernel_rfl) (by kernel_rfl) (by kernel_rfl) ?_
        refine ⟨⟨.inr ⟨_, rfl, rfl, .inl ⟨rfl, Do.fieldAddrB tf_fo74_2 rfl rfl⟩⟩, .inr ⟨_, rfl, rfl, .inl ⟨rfl, Do.load tf_flat22 rfl (Cell.own 3 0 rfl rfl rfl)⟩⟩, trivial⟩, rfl, rfl, by kernel_rfl, _, rfl, rfl, rfl, _, Do.call tf_body66 rfl (bstr_ok (x := ⟨A75, C76, (y.l ++ lenB b.length) ++ [13, 10], s78, o79⟩) (by simp)), ?_⟩
        rintro _ _ ⟨s81, rfl, rfl⟩
        refine ⟨[], rfl, ?_⟩
        refine ⟨⟨.inr ⟨_, rfl, rfl, .inl ⟨rfl, Do.fieldAddrB tf_fo74_2 rfl rfl⟩⟩, .inr ⟨_, rfl, rfl, .inl ⟨rfl, Do.load tf_flat22 rfl (Cell.own 2 0 rfl rfl rfl)⟩⟩, trivial⟩, rfl, rfl, by kernel_rfl, _, rfl, rfl, rfl, _, Do.bytesOf (l := (y.l ++ lenB b.length) ++ [13, 10]) Tryz.underlying9 Tryz.underlying22 Tryz.underlying5 (by simp only [List.length_append, List.length_cons, List.length_nil, CCL] <;> omega) rfl, ?_⟩
        rintro _ _ ⟨A82, C83, s84, n86, o85, rfl, rfl⟩
        refine ⟨[], rfl, ?_⟩
        refine ⟨⟨.inr ⟨_, rfl, rfl, .inl ⟨rfl, Do.fieldAddrB tf_fo74_2 rfl rfl⟩⟩, .inr ⟨_, rfl, rfl, .inl ⟨rfl, Do.load tf_flat22 rfl (Cell.own 3 0 rfl rfl rfl)⟩⟩, trivial⟩, rfl, rfl, by kernel_rfl, _, rfl, rfl, rfl, _, Do.append (l := (y.l ++ lenB b.length) ++ [13, 10]) (news := b) 0 tf_el22 rfl o85 (Rd.skip 4 h2) (by simp only [List.length_append, List.length_cons, List.length_nil, CCL] <;> omega) rfl rfl, ?_⟩
        rintro _ _ ⟨A87, C88, s89, o90, rfl, rfl⟩
        refine ⟨[(5, .slice A87 (((y.l ++ lenB b.length) ++ [13, 10]) ++ b).length C88), (6, .int .i64 0)], rfl, ?_⟩
        refine ⟨⟨.inr ⟨_, rfl, rfl, .inl ⟨rfl, Do.assign rfl⟩⟩, .inr ⟨_, rfl, rfl, .inl ⟨rfl, Do.assign rfl⟩⟩, .inl (by kernel_rfl), .inl (by kernel_rfl), trivial⟩, by kernel_rfl, ?_⟩
        refine At.mono (E' := [(2, .slice A87 (((y.l ++ lenB b.length) ++ [13, 10]) ++ b).length C88), (3, .int .i64 0)]) ⟨rfl, rfl, trivial⟩ ?_
        refine At.pick (H' := s89 :: H) [0] 4 rfl rfl ?_
        exact At.ret Tryz.func43 rfl rfl (⟨⟨A87, C88, ((y.l ++ lenB b.length) ++ [13, 10]) ++ b, s89, o90⟩, by dsimp only; rw [hgL, hy]; simp [respB, headR, endB, hc3, List.append_assoc], by rw [he0]; rfl, rfl⟩)

set_option maxHeartbeats 1000000 in
theorem rrwrite_okP {w0 : World} {base : Nat} {H : List Seg} {st : Int} {A A2 : Option Addr} {C C2 : Nat} {fs : List (List UInt8 × List UInt8)} {b : List UInt8} {kp : Bool} (h : Rd tyField w0 base H A C fs) (h2 : Rd tyB w0 base H A2 C2 b) (hb : ∀ f ∈ fs, f.1.length ≤ 140737488355000 ∧ f.2.length ≤ 140737488355000) (T10 : Tab10 w0 base) :
    SCalls Tryz.prog 44 [.agg #[.int .i64 st, .slice A fs.length C, .slice A2 b.length C2, .bool kp]] w0 base (H) (fun v H' => ∃ x : Sl tyB 5, x.l = respL ⟨st, fs, b, kp⟩ ∧ v = .tuple #[.slice x.A x.l.length x.C, int (respE ⟨st, fs, b, kp⟩)] ∧ H' = x.s :: H) := by
  have hle0 := h.le
  have hcap0 := h.cap
  have hle2 := h2.le
  have hcap2 := h2.cap
  refine SCalls.of_walk (n := 65) Tryz.func44 rfl rfl rfl fun cs => ?_
  refine At.seq ?_
  refine At.region ?_
  refine AtL.box (cs := #[.int .i64 st, .slice A fs.length C, .slice A2 b.length C2, .bool kp]) rfl (.inl rfl) rfl rfl ?_
  intro b1
  refine AtL.assign (.inl rfl) rfl rfl ?_
  refine AtL.assign (.inl rfl) rfl rfl ?_
  refine AtL.done ?_
  refine At.seq ?_
  refine At.region ?_
  refine AtL.loadN (cs := [.int .i64 st, .slice A fs.length C, .slice A2 b.length C2, .bool kp]) tf_agg74 (.inl rfl) rfl rfl rfl (cellsOwn 0 0 0 rfl rfl rfl) ?_
  refine AtL.call tf_body67 (.inl rfl) rfl rfl (rrchk_ok0 (st := st) (fs := fs) (b := b) (kp := kp) (Rd.skip 1 h) (Rd.skip 1 h2) hb) ?_
  rintro _ _ ⟨rfl, rfl⟩
  refine AtL.assign (.inl rfl) rfl rfl ?_
  refine AtL.done ?_
  refine At.seq ?_
  refine At.seq ?_
  refine At.region ?_
  refine AtL.move (.inl rfl) rfl rfl ?_
  refine AtL.nei (.inl rfl) rfl rfl rfl ?_
  refine AtL.done ?_
  refine At.cond rfl ?_ ?_
  · intro hc1
    have hc1 : ¬ ((respE ⟨st, fs, b, kp⟩ : Int) = 0) := of_decide_eq_false (bnot_true hc1)
    refine At.seq ?_
    refine At.region ?_
    refine AtL.move (.inl rfl) rfl rfl ?_
    refine AtL.assign (.inl rfl) rfl rfl ?_
    refine AtL.assign (.inl rfl) rfl rfl ?_
    refine AtL.done ?_
    obtain ⟨he2, hl0⟩ := resp_bad (r := ⟨st, fs, b, kp⟩) hc1
    refine At.nil ?_
    refine At.pick (H' := [] :: H) [0] 2 rfl rfl ?_
    exact At.ret Tryz.func44 rfl rfl (⟨Sl.nil, by rw [hl0]; rfl, by rw [he2]; rfl, rfl⟩)
  · intro hc1
    have hc1 : (respE ⟨st, fs, b, kp⟩ : Int) = 0 := of_decide_eq_true (bnot_false hc1)
    have he0 : respE ⟨st, fs, b, kp⟩ = 0 := by simpa using hc1
    obtain ⟨hgL, hg1, hg2, hg3, hg4, hg5⟩ := resp_good he0
    dsimp only at hg1 hg2 hg3 hg4 hg5
    have hdl := decF_len st.toNat (by omega)
    have hdb := decF_len b.length (by omega)
    have hrl := reasonF_len st
    have hsl := stB_len st hdl
    have hll := lenB_len b.length hdb
    have hfsl : (fieldsR fs).length ≤ 5000 := by rw [fieldsR_len]; omega
    refine At.skip ?_
    refine At.seq ?_
    refine At.draw (es := []) (pv := [(0, .pointer (some ⟨b1, 0, none⟩)), (1, .int .i64 st), (2, str (decF (Int.toNat st))), (3, str ([72, 84, 84, 80, 47, 49, 46, 49, 32] ++ (decF (Int.toNat st)))), (4, str (([72, 84, 84, 80, 47, 49, 46, 49, 32] ++ (decF (Int.toNat st))) ++ [32])), (5, .pointer (some ⟨b1, 0, none⟩)), (6, .int .i64 st), (7, str (reasonF st)), (8, str ((([72, 84, 84, 80, 47, 49, 46, 49, 32] ++ (decF (Int.toNat st))) ++ [32]) ++ (reasonF st))), (9, str (((([72, 84, 84, 80, 47, 49, 46, 49, 32] ++ (decF (Int.toNat st))) ++ [32]) ++ (reasonF st)) ++ [13, 10])), (10, str (((([72, 84, 84, 80, 47, 49, 46, 49, 32] ++ (decF (Int.toNat st))) ++ [32]) ++ (reasonF st)) ++ [13, 10]))]) tf_mixed (by kernel_rfl) (by kernel_rfl) (by kernel_rfl) ?_
    refine ⟨⟨.inr ⟨_, rfl, rfl, .inl ⟨rfl, Do.fieldAddrB tf_fo74_0 rfl rfl⟩⟩, .inr ⟨_, rfl, rfl, .inl ⟨rfl, Do.load tf_flat3 rfl (Cell.own 0 0 rfl rfl rfl)⟩⟩, .inr ⟨_, rfl, rfl, .inl ⟨rfl, Do.call tf_body42 rfl (itoa_any (n := st) (by omega) (by omega) T10)⟩⟩, .inr ⟨_, rfl, rfl, .inl ⟨rfl, Do.cat rfl rfl (by have hrl2 := reasonF_len st; simp only [List.length_append, List.length_cons, List.length_nil, CCL] at * <;> omega)⟩⟩, .inr ⟨_, rfl, rfl, .inl ⟨rfl, Do.cat rfl rfl (by have hrl2 := reasonF_len st; simp only [List.length_append, List.length_cons, List.length_nil, CCL] at * <;> omega)⟩⟩, .inr ⟨_, rfl, rfl, .inl ⟨rfl, Do.fieldAddrB tf_fo74_0 rfl rfl⟩⟩, .inr ⟨_, rfl, rfl, .inl ⟨rfl, Do.load tf_flat3 rfl (Cell.own 0 0 rfl rfl rfl)⟩⟩, .inr ⟨_, rfl, rfl, .inl ⟨rfl, Do.call tf_body68 rfl (rreason_ok st)⟩⟩, .inr ⟨_, rfl, rfl, .inl ⟨rfl, Do.cat rfl rfl (by have hrl2 := reasonF_len st; simp only [List.length_append, List.length_cons, List.length_nil, CCL] at * <;> omega)⟩⟩, .inr ⟨_, rfl, rfl, .inl ⟨rfl, Do.cat rfl rfl (by have hrl2 := reasonF_len st; simp only [List.length_append, List.length_cons, List.length_nil, CCL] at * <;> omega)⟩⟩, .inr ⟨_, rfl, rfl, .inl ⟨rfl, Do.assign rfl⟩⟩, trivial⟩, by kernel_rfl, ?_⟩
    refine At.mono (E' := [(1, .pointer (some ⟨b1, 0, none⟩)), (5, str (((([72, 84, 84, 80, 47, 49, 46, 49, 32] ++ (decF (Int.toNat st))) ++ [32]) ++ (reasonF st)) ++ [13, 10]))]) ⟨rfl, rfl, trivial⟩ ?_
    refine At.seq ?_
    refine At.seq ?_
    refine At.region ?_
    refine AtL.assign (.inl rfl) rfl rfl ?_
    refine AtL.done ?_
    refine At.block ?_
    refine At.loop2 (fun (k : Nat) (y : List UInt8) => [(1, .pointer (some ⟨b1, 0, none⟩)), (5, str y), (6, .int .i64 (k : Int))]) (fun (k : Nat) (y : List UInt8) => [(b1, .cells #[.int .i64 st, .slice A fs.length C, .slice A2 b.length C2, .bool kp] 74 (0, 0))] :: H) (fun (k : Nat) (y : List UInt8) => k ≤ fs.length ∧ y = stB st ++ fieldsR (fs.take k)) (fun (k : Nat) (y : List UInt8) => fs.length - k) 0 (((([72, 84, 84, 80, 47, 49, 46, 49, 32] ++ (decF (Int.toNat st))) ++ [32]) ++ (reasonF st)) ++ [13, 10]) (⟨Nat.zero_le _, by simp [fieldsR, stB, H11]⟩) ⟨rfl, rfl, rfl, trivial⟩ rfl ?_
    rintro k y ⟨hk, hy⟩ ihL1
    have hyl : y.length = (stB st).length + (fieldsR (fs.take k)).length := by rw [hy, List.length_append]
    have hfu := fields_upto (fs := fs) k
    refine At.seq ?_
    refine At.seq ?_
    refine At.region ?_
    refine AtL.move (.inl rfl) rfl rfl ?_
    refine AtL.fieldAddrB tf_fo74_1 (.inl rfl) rfl rfl rfl ?_
    refine AtL.load tf_flat45 (.inl rfl) rfl rfl (Cell.own 0 0 rfl rfl rfl) ?_
    refine AtL.lenL Tryz.underlying45 (.inl rfl) rfl rfl ?_
    refine AtL.lss (.inl rfl) rfl rfl rfl ?_
    refine AtL.done ?_
    refine At.cond rfl ?_ ?_
    · intro hc2
      have hc2 : (k : Int) < (fs.length : Int) := of_decide_eq_true hc2
      have hfa := fields_at (fs := fs) (k := k) (by omega)
      have hbk := hb _ (getD_mem (l := fs) (i := k) (d := (([], []) : List UInt8 × List UInt8)) (by omega))
      refine At.skip ?_
      refine At.seq ?_
      refine At.block ?_
      refine At.draw (es := []) (pv := [(0, str y), (1, .pointer (some ⟨b1, 1, none⟩)), (2, .slice A fs.length C), (3, .int .i64 (k : Int)), (4, .pointer (some (eaddr A (k * tyField.sz)))), (5, .pointer (some ((eaddr A (k * tyField.sz)).add 0))), (6, str ((fs.getD k (([], []) : List UInt8 × List UInt8)).1)), (7, str (y ++ ((fs.getD k (([], []) : List UInt8 × List UInt8)).1))), (8, str ((y ++ ((fs.getD k (([], []) : List UInt8 × List UInt8)).1)) ++ [58, 32])), (9, .pointer (some ⟨b1, 1, none⟩)), (10, .slice A fs.length C), (11, .int .i64 (k : Int)), (12, .pointer (some (eaddr A (k * tyField.sz)))), (13, .pointer (some ((eaddr A (k * tyField.sz)).add 1))), (14, str ((fs.getD k (([], []) : List UInt8 × List UInt8)).2)), (15, str (((y ++ ((fs.getD k (([], []) : List UInt8 × List UInt8)).1)) ++ [58, 32]) ++ ((fs.getD k (([], []) : List UInt8 × List UInt8)).2))), (16, str ((((y ++ ((fs.getD k (([], []) : List UInt8 × List UInt8)).1)) ++ [58, 32]) ++ ((fs.getD k (([], []) : List UInt8 × List UInt8)).2)) ++ [13, 10])), (17, str ((((y ++ ((fs.getD k (([], []) : List UInt8 × List UInt8)).1)) ++ [58, 32]) ++ ((fs.getD k (([], []) : List UInt8 × List UInt8)).2)) ++ [13, 10]))]) tf_mixed (by kernel_rfl) (by kernel_rfl) (by kernel_rfl) ?_
      refine ⟨⟨.inr ⟨_, rfl, rfl, .inl ⟨rfl, Do.move rfl⟩⟩, .inr ⟨_, rfl, rfl, .inl ⟨rfl, Do.fieldAddrB tf_fo74_1 rfl rfl⟩⟩, .inr ⟨_, rfl, rfl, .inl ⟨rfl, Do.load tf_flat45 rfl (Cell.own 0 0 rfl rfl rfl)⟩⟩, .inr ⟨_, rfl, rfl, .inl ⟨rfl, Do.move rfl⟩⟩, .inr ⟨_, rfl, rfl, .inl ⟨rfl, Do.indexL k (Rd.skip 1 h) Tryz.underlying45 tf_sz78 rfl rfl rfl (by omega)⟩⟩, .inr ⟨_, rfl, rfl, .inl ⟨rfl, Do.fieldAddr tf_fo78_0 rfl⟩⟩, .inr ⟨_, rfl, rfl, .inl ⟨rfl, Do.load (v := str ((fs.getD k (([], []) : List UInt8 × List UInt8)).1)) tf_flat9 rfl (Rd.cell_at (Rd.skip 1 h) (j := 0) (getD_some (([], []) : List UInt8 × List UInt8) (by omega)) rfl)⟩⟩, .inr ⟨_, rfl, rfl, .inl ⟨rfl, Do.cat rfl rfl (by have hrl2 := reasonF_len st; simp only [List.length_append, List.length_cons, List.length_nil, CCL] at * <;> omega)⟩⟩, .inr ⟨_, rfl, rfl, .inl ⟨rfl, Do.cat rfl rfl (by have hrl2 := reasonF_len st; simp only [List.length_append, List.length_cons, List.length_nil, CCL] at * <;> omega)⟩⟩, .inr ⟨_, rfl, rfl, .inl ⟨rfl, Do.fieldAddrB tf_fo74_1 rfl rfl⟩⟩, .inr ⟨_, rfl, rfl, .inl ⟨rfl, Do.load tf_flat45 rfl (Cell.own 0 0 rfl rfl rfl)⟩⟩, .inr ⟨_, rfl, rfl, .inl ⟨rfl, Do.move rfl⟩⟩, .inr ⟨_, rfl, rfl, .inl ⟨rfl, Do.indexL k (Rd.skip 1 h) Tryz.underlying45 tf_sz78 rfl rfl rfl (by omega)⟩⟩, .inr ⟨_, rfl, rfl, .inl ⟨rfl, Do.fieldAddr tf_fo78_1 rfl⟩⟩, .inr ⟨_, rfl, rfl, .inl ⟨rfl, Do.load (v := str ((fs.getD k (([], []) : List UInt8 × List UInt8)).2)) tf_flat9 rfl (Rd.cell_at (Rd.skip 1 h) (j := 1) (getD_some (([], []) : List UInt8 × List UInt8) (by omega)) rfl)⟩⟩, .inr ⟨_, rfl, rfl, .inl ⟨rfl, Do.cat rfl rfl (by have hrl2 := reasonF_len st; simp only [List.length_append, List.length_cons, List.length_nil, CCL] at * <;> omega)⟩⟩, .inr ⟨_, rfl, rfl, .inl ⟨rfl, Do.cat rfl rfl (by have hrl2 := reasonF_len st; simp only [List.length_append, List.length_cons, List.length_nil, CCL] at * <;> omega)⟩⟩, .inr ⟨_, rfl, rfl, .inl ⟨rfl, Do.assign rfl⟩⟩, trivial⟩, by kernel_rfl, ?_⟩
      refine At.mono (E' := [(1, .pointer (some ⟨b1, 0, none⟩)), (5, str ((((y ++ ((fs.getD k (([], []) : List UInt8 × List UInt8)).1)) ++ [58, 32]) ++ ((fs.getD k (([], []) : List UInt8 × List UInt8)).2)) ++ [13, 10])), (6, .int .i64 (k : Int))]) ⟨rfl, rfl, rfl, trivial⟩ ?_
      refine At.inBlock ?_
      refine At.region ?_
      refine AtL.move (.inl rfl) rfl rfl ?_
      refine AtL.add (z := (k : Int) + 1) (.inl rfl) rfl rfl rfl (w64 (by omega) (by omega)) ?_
      refine AtL.assign (.inl rfl) rfl rfl ?_
      refine AtL.done ?_
      refine ihL1 (k + 1) ((((y ++ ((fs.getD k (([], []) : List UInt8 × List UInt8)).1)) ++ [58, 32]) ++ ((fs.getD k (([], []) : List UInt8 × List UInt8)).2)) ++ [13, 10]) (⟨by omega, by rw [hy, fieldsR_snoc fs k (by omega)]; simp only [List.append_assoc]⟩) (by omega) _ ?_
      exact ⟨rfl, (by first | rfl | exact slLen (by simp []) | exact intEq (by omega) | exact intEq (by simp []) | exact slLen (by simp []; omega)), (by first | rfl | exact slLen (by simp []) | exact intEq (by omega) | exact intEq (by simp []) | exact slLen (by simp []; omega)), trivial⟩
    · intro hc2
      have hc2 : ¬ ((k : Int) < (fs.length : Int)) := of_decide_eq_false hc2
      rw [List.take_of_length_le (by omega)] at hy hyl
      refine At.exit rfl ?_
      refine At.seq ?_
      refine At.region ?_
      refine AtL.move (.inl rfl) rfl rfl ?_
      refine AtL.cat (.inl rfl) rfl rfl rfl (by have hrl2 := reasonF_len st; simp only [List.length_append, List.length_cons, List.length_nil, CCL] at * <;> omega) ?_
      refine AtL.fieldAddrB tf_fo74_2 (.inl rfl) rfl rfl rfl ?_
      refine AtL.load tf_flat22 (.inl rfl) rfl rfl (Cell.own 0 0 rfl rfl rfl) ?_
      refine AtL.lenL Tryz.underlying22 (.inl rfl) rfl rfl ?_
      refine AtL.call tf_body42 (.inl rfl) rfl rfl (itoa_nat b.length (by omega) T10) ?_
      rintro _ _ ⟨rfl, rfl⟩
      refine AtL.cat (.inl rfl) rfl rfl rfl (by have hrl2 := reasonF_len st; simp only [List.length_append, List.length_cons, List.length_nil, CCL] at * <;> omega) ?_
      refine AtL.cat (.inl rfl) rfl rfl rfl (by have hrl2 := reasonF_len st; simp only [List.length_append, List.length_cons, List.length_nil, CCL] at * <;> omega) ?_
      refine AtL.assign (.inl rfl) rfl rfl ?_
      refine AtL.done ?_
      refine At.seq ?_
      refine At.seq ?_
      refine At.region ?_
      refine AtL.fieldAddrB tf_fo74_3 (.inl rfl) rfl rfl rfl ?_
      refine AtL.load tf_flat4 (.inl rfl) rfl rfl (Cell.own 0 0 rfl rfl rfl) ?_
      refine AtL.not (.inl rfl) rfl rfl ?_
      refine AtL.done ?_
      refine At.cond rfl ?_ ?_
      · intro hc3
        have hc3 : kp = false := bnot_true hc3
        refine At.region ?_
        refine AtL.move (.inl rfl) rfl rfl ?_
        refine AtL.cat (.inl rfl) rfl rfl rfl (by have hrl2 := reasonF_len st; simp only [List.length_append, List.length_cons, List.length_nil, CCL] at * <;> omega) ?_
        refine AtL.assign (.inl rfl) rfl rfl ?_
        refine AtL.done ?_
        refine At.seq ?_
        refine At.region ?_
        refine AtL.move (.inl rfl) rfl rfl ?_
        refine AtL.cat (.inl rfl) rfl rfl rfl (by have hrl2 := reasonF_len st; simp only [List.length_append, List.length_cons, List.length_nil, CCL] at * <;> omega) ?_
        refine AtL.bytesOf (l := ((((y ++ [67, 111, 110, 116, 101, 110, 116, 45, 76, 101, 110, 103, 116, 104, 58, 32]) ++ (decF b.length)) ++ [13, 10]) ++ [67, 111, 110, 110, 101, 99, 116, 105, 111, 110, 58, 32, 99, 108, 111, 115, 101, 13, 10]) ++ [13, 10]) Tryz.underlying9 Tryz.underlying22 Tryz.underlying5 (by have hrl2 := reasonF_len st; simp only [List.length_append, List.length_cons, List.length_nil, CCL] at * <;> omega) (.inl rfl) rfl rfl ?_
        intro A2 C3 s4 n6 o5
        refine AtL.fieldAddrB tf_fo74_2 (.inl rfl) rfl rfl rfl ?_
        refine AtL.load tf_flat22 (.inl rfl) rfl rfl (Cell.own 1 0 rfl rfl rfl) ?_
        refine AtL.append (l := ((((y ++ [67, 111, 110, 116, 101, 110, 116, 45, 76, 101, 110, 103, 116, 104, 58, 32]) ++ (decF b.length)) ++ [13, 10]) ++ [67, 111, 110, 110, 101, 99, 116, 105, 111, 110, 58, 32, 99, 108, 111, 115, 101, 13, 10]) ++ [13, 10]) (news := b) 0 tf_el22 rfl o5 (Rd.skip 2 h2) (by have hrl2 := reasonF_len st; simp only [List.length_append, List.length_cons, List.length_nil, CCL] at * <;> omega) (.inl rfl) rfl rfl rfl ?_
        intro A7 C8 s9 o10
        refine AtL.assign (.inl rfl) rfl rfl ?_
        refine AtL.assign (.inl rfl) rfl rfl ?_
        refine AtL.done ?_
        refine At.pick (H' := s9 :: H) [0] 2 rfl rfl ?_
        exact At.ret Tryz.func44 rfl rfl (⟨⟨A7, C8, (((((y ++ [67, 111, 110, 116, 101, 110, 116, 45, 76, 101, 110, 103, 116, 104, 58, 32]) ++ (decF b.length)) ++ [13, 10]) ++ [67, 111, 110, 110, 101, 99, 116, 105, 111, 110, 58, 32, 99, 108, 111, 115, 101, 13, 10]) ++ [13, 10]) ++ b, s9, o10⟩, by dsimp only; rw [hgL, hy]; simp [respB, headR, endB, lenB, CLN, CCL, hc3, List.append_assoc], by rw [he0]; rfl, rfl⟩)
      · intro hc3
        have hc3 : kp = true := bnot_false hc3
        refine At.skip ?_
        refine At.seq ?_
        refine At.region ?_
        refine AtL.move (.inl rfl) rfl rfl ?_
        refine AtL.cat (.inl rfl) rfl rfl rfl (by have hrl2 := reasonF_len st; simp only [List.length_append, List.length_cons, List.length_nil, CCL] at * <;> omega) ?_
        refine AtL.bytesOf (l := (((y ++ [67, 111, 110, 116, 101, 110, 116, 45, 76, 101, 110, 103, 116, 104, 58, 32]) ++ (decF b.length)) ++ [13, 10]) ++ [13, 10]) Tryz.underlying9 Tryz.underlying22 Tryz.underlying5 (by have hrl2 := reasonF_len st; simp only [List.length_append, List.length_cons, List.length_nil, CCL] at * <;> omega) (.inl rfl) rfl rfl ?_
        intro A11 C12 s13 n15 o14
        refine AtL.fieldAddrB tf_fo74_2 (.inl rfl) rfl rfl rfl ?_
        refine AtL.load tf_flat22 (.inl rfl) rfl rfl (Cell.own 1 0 rfl rfl rfl) ?_
        refine AtL.append (l := (((y ++ [67, 111, 110, 116, 101, 110, 116, 45, 76, 101, 110, 103, 116, 104, 58, 32]) ++ (decF b.length)) ++ [13, 10]) ++ [13, 10]) (news := b) 0 tf_el22 rfl o14 (Rd.skip 2 h2) (by have hrl2 := reasonF_len st; simp only [List.length_append, List.length_cons, List.length_nil, CCL] at * <;> omega) (.inl rfl) rfl rfl rfl ?_
        intro A16 C17 s18 o19
        refine AtL.assign (.inl rfl) rfl rfl ?_
        refine AtL.assign (.inl rfl) rfl rfl ?_
        refine AtL.done ?_
        refine At.pick (H' := s18 :: H) [0] 2 rfl rfl ?_
        exact At.ret Tryz.func44 rfl rfl (⟨⟨A16, C17, ((((y ++ [67, 111, 110, 116, 101, 110, 116, 45, 76, 101, 110, 103, 116, 104, 58, 32]) ++ (decF b.length)) ++ [13, 10]) ++ [13, 10]) ++ b, s18, o19⟩, by dsimp only; rw [hgL, hy]; simp [respB, headR, endB, lenB, CLN, CCL, hc3, List.append_assoc], by rw [he0]; rfl, rfl⟩)

end Go.Proofs.YtlkdmbpbjhjkfaaGreatDoor
