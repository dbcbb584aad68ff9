/- What a reader tells of itself. -/
import Derived.Test.YtllfgcekebafhaaDoorF1
namespace Go.Proofs.YtllfgcekebafhaaDoor
set_option linter.unusedVariables false
set_option linter.unusedSimpArgs false
set_option maxRecDepth 100000

set_option maxHeartbeats 400000 in
theorem none_nil {w0 : World} {base : Nat} {H : List Seg}  :
    SCalls Tryd.prog 31 [.pointer none] w0 base (H) (fun v H' => v = .bool true ∧ H' = H) := by
  refine SCalls.of_walk (n := 12) Tryd.func31 rfl rfl rfl fun cs => ?_
  refine At.seq ?_
  refine At.region ?_
  refine AtL.assign (.inl rfl) rfl rfl ?_
  refine AtL.done ?_
  refine At.seq ?_
  refine At.region ?_
  refine AtL.move (.inl rfl) rfl rfl ?_
  refine AtL.eqPtrNil Tryd.underlying39 (.inl rfl) rfl rfl rfl ?_
  refine AtL.move (.inl rfl) rfl rfl ?_
  refine AtL.skipped rfl rfl rfl rfl rfl rfl ?_
  refine AtL.skipped rfl rfl rfl rfl rfl rfl ?_
  refine AtL.skipped rfl rfl rfl rfl rfl rfl ?_
  refine AtL.skipped rfl rfl rfl rfl rfl rfl ?_
  refine AtL.skipped rfl rfl rfl rfl rfl rfl ?_
  refine AtL.pickT (.inl rfl) rfl rfl rfl ?_
  refine AtL.assign (.inl rfl) rfl rfl ?_
  refine AtL.done ?_
  exact At.ret Tryd.func31 rfl rfl (⟨rfl, rfl⟩)

set_option maxHeartbeats 400000 in
theorem none_ok {w0 : World} {base : Nat} {H : List Seg} {b : Nat} {y : Sl tyB 5} {m e lr : Int} {br : Bool} {off : Nat} :
    SCalls Tryd.prog 31 [.pointer (some ⟨b, 0, none⟩)] w0 base ([(b, .cells #[.int .i64 m, .bool br, .slice y.A y.l.length y.C, .int .i64 (off : Int), .int .i8 lr, .int .i64 e] 56 (0, 0))] :: H) (fun v H' => v = .bool (decide (m = 0)) ∧ H' = [(b, .cells #[.int .i64 m, .bool br, .slice y.A y.l.length y.C, .int .i64 (off : Int), .int .i8 lr, .int .i64 e] 56 (0, 0))] :: H) := by
  refine SCalls.of_walk (n := 12) Tryd.func31 rfl rfl rfl fun cs => ?_
  refine At.seq ?_
  refine At.region ?_
  refine AtL.assign (.inl rfl) rfl rfl ?_
  refine AtL.done ?_
  refine At.seq ?_
  refine At.region ?_
  refine AtL.move (.inl rfl) rfl rfl ?_
  refine AtL.eqPtrNil Tryd.underlying39 (.inl rfl) rfl rfl rfl ?_
  refine AtL.move (.inl rfl) rfl rfl ?_
  refine AtL.move (.inr ⟨_, _, _, rfl, rfl, rfl, rfl⟩) rfl rfl ?_
  refine AtL.nilCheck (.inr ⟨_, _, _, rfl, rfl, rfl, rfl⟩) rfl rfl ?_
  refine AtL.fieldAddrB tf_fo56_0 (.inr ⟨_, _, _, rfl, rfl, rfl, rfl⟩) rfl rfl rfl ?_
  refine AtL.load tf_flat3 (.inr ⟨_, _, _, rfl, rfl, rfl, rfl⟩) rfl rfl (Cell.own 0 0 rfl rfl rfl) ?_
  refine AtL.eqi (.inr ⟨_, _, _, rfl, rfl, rfl, rfl⟩) rfl rfl rfl ?_
  refine AtL.pickF (.inl rfl) rfl rfl rfl ?_
  refine AtL.assign (.inl rfl) rfl rfl ?_
  refine AtL.done ?_
  exact At.ret Tryd.func31 rfl rfl (⟨rfl, rfl⟩)

/-- The length that has come. -/
def szF (c : List UInt8) : Nat := 256 * (c.getD 0 0).toNat + (c.getD 1 0).toNat
theorem subl_from_len {c : List UInt8} {i : Nat} (h : i ≤ c.length) : (subl c i c.length).length = c.length - i := subl_len (Nat.le_refl _)
/-- What the first bytes say: an error, and how many bytes the first message has (0: it is not whole). -/
structure FrS where
  e : Int
  n : Nat
def frS (most : Int) (c : List UInt8) : FrS :=
  if c.length < 2 then ⟨0, 0⟩ else if szF c < 12 then ⟨4, 0⟩ else if most < (szF c : Int) then ⟨3, 0⟩ else if c.length < szF c + 2 then ⟨0, 0⟩ else ⟨0, szF c⟩
theorem frS_n (most : Int) (c : List UInt8) : ((frS most c).n ≠ 0 → (frS most c).e = 0 ∧ 12 ≤ (frS most c).n ∧ (frS most c).n + 2 ≤ c.length ∧ (frS most c).n = szF c) := by
  unfold frS
  repeat' split
  all_goals simp
  all_goals omega
structure FrR where
  out : List (List UInt8)
  e : Int
  rest : List UInt8
/-- P12.2: the messages that bytes hold, the error, what is kept. -/
def frF (most : Int) (c : List UInt8) : FrR :=
  if (frS most c).e ≠ 0 then ⟨[], (frS most c).e, []⟩
  else if hn : (frS most c).n = 0 then ⟨[], 0, c⟩
  else ⟨subl c 2 (2 + (frS most c).n) :: (frF most (c.drop (2 + (frS most c).n))).out, (frF most (c.drop (2 + (frS most c).n))).e, (frF most (c.drop (2 + (frS most c).n))).rest⟩
termination_by c.length
decreasing_by all_goals (have := frS_n most c hn; simp; omega)
theorem frF_err {most : Int} {c : List UInt8} (h : (frS most c).e ≠ 0) : frF most c = ⟨[], (frS most c).e, []⟩ := by rw [frF, if_pos h]
theorem frF_none {most : Int} {c : List UInt8} (h : (frS most c).e = 0) (hn : (frS most c).n = 0) : frF most c = ⟨[], 0, c⟩ := by rw [frF, if_neg (by omega), dif_pos hn]
theorem frF_more {most : Int} {c : List UInt8} (hn : (frS most c).n ≠ 0) : frF most c = ⟨subl c 2 (2 + (frS most c).n) :: (frF most (c.drop (2 + (frS most c).n))).out, (frF most (c.drop (2 + (frS most c).n))).e, (frF most (c.drop (2 + (frS most c).n))).rest⟩ := by
  have := frS_n most c hn
  conv => lhs; rw [frF, if_neg (by omega), dif_neg hn]
theorem szF_le (c : List UInt8) : szF c ≤ 65535 := by
  unfold szF
  have := (c.getD 0 0).toNat_lt
  have := (c.getD 1 0).toNat_lt
  omega
/-- The length that is missing. -/
def wantF (c : List UInt8) : Int := if c.length < 2 then 0 else (szF c : Int) + 2 - c.length
theorem getD_drop (l : List UInt8) (i k : Nat) : (l.drop i).getD k 0 = l.getD (i + k) 0 := by simp [List.getD]

set_option maxHeartbeats 400000 in
theorem size_ok {w0 : World} {base : Nat} {H : List Seg} {b : Nat} {y : Sl tyB 5} {m e lr : Int} {br : Bool} {off : Nat} (hl : y.l.length ≤ 500000000) (ho : off ≤ y.l.length) :
    SCalls Tryd.prog 36 [.pointer (some ⟨b, 0, none⟩)] w0 base (y.s :: [(b, .cells #[.int .i64 m, .bool br, .slice y.A y.l.length y.C, .int .i64 (off : Int), .int .i8 lr, .int .i64 e] 56 (0, 0))] :: H) (fun v H' => v = .tuple #[int (if 2 ≤ (y.l.drop off).length then (szF (y.l.drop off) : Int) else 0), .bool (if 2 ≤ (y.l.drop off).length then true else false)] ∧ H' = y.s :: [(b, .cells #[.int .i64 m, .bool br, .slice y.A y.l.length y.C, .int .i64 (off : Int), .int .i8 lr, .int .i64 e] 56 (0, 0))] :: H) := by
  refine SCalls.of_walk (n := 22) Tryd.func36 rfl rfl rfl fun cs => ?_
  refine At.seq ?_
  refine At.region ?_
  refine AtL.assign (.inl rfl) rfl rfl ?_
  refine AtL.assign (.inl rfl) rfl rfl ?_
  refine AtL.done ?_
  refine At.seq ?_
  refine At.region ?_
  refine AtL.move (.inl rfl) rfl rfl ?_
  refine AtL.nilCheck (.inl rfl) rfl rfl ?_
  refine AtL.fieldAddrB tf_fo56_2 (.inl rfl) rfl rfl rfl ?_
  refine AtL.call tf_body42 (.inl rfl) rfl rfl (bbytes_ok (y := y) (off := off) (by first | omega | (dsimp only; omega)) (by first | omega | (dsimp only; omega))) ?_
  rintro _ _ ⟨A1, C2, o3, rfl, rfl⟩
  refine AtL.assign (.inl rfl) rfl rfl ?_
  refine AtL.done ?_
  have hlen := subl_from_len ho
  refine At.seq ?_
  refine At.seq ?_
  refine At.region ?_
  refine AtL.move (.inl rfl) rfl rfl ?_
  refine AtL.lenL Tryd.underlying22 (.inl rfl) rfl rfl ?_
  refine AtL.lss (.inl rfl) rfl rfl rfl ?_
  refine AtL.done ?_
  refine At.cond rfl ?_ ?_
  · intro hc1
    have hc1 : ((subl y.l off y.l.length).length : Int) < 2 := of_decide_eq_true hc1
    refine At.seq ?_
    refine At.region ?_
    refine AtL.assign (.inl rfl) rfl rfl ?_
    refine AtL.assign (.inl rfl) rfl rfl ?_
    refine AtL.done ?_
    have hc0 : subl y.l off y.l.length = y.l.drop off := subl_from _ _
    have hlen : (y.l.drop off).length = y.l.length - off := List.length_drop
    exact At.ret Tryd.func36 rfl rfl (⟨by rw [if_neg (show ¬ 2 ≤ (y.l.drop off).length by omega), if_neg (by omega)]; rfl, rfl⟩)
  · intro hc1
    have hc1 : ¬ (((subl y.l off y.l.length).length : Int) < 2) := of_decide_eq_false hc1
    refine At.skip ?_
    refine At.seq ?_
    have hB4 := u8_le (((subl y.l off y.l.length).getD 0 0))
    have hB5 := u8_le (((subl y.l off y.l.length).getD 1 0))
    refine At.draw (es := []) (pv := [(0, .slice A1 (subl y.l off y.l.length).length C2), (1, .pointer (some (eaddr A1 (0 * tyB.sz)))), (2, .int .u8 (((subl y.l off y.l.length).getD 0 0).toNat : Int)), (3, .int .i64 (((subl y.l off y.l.length).getD 0 0).toNat : Int)), (4, .int .i64 ((((subl y.l off y.l.length).getD 0 0).toNat : Int) * 256)), (5, .slice A1 (subl y.l off y.l.length).length C2), (6, .pointer (some (eaddr A1 (1 * tyB.sz)))), (7, .int .u8 (((subl y.l off y.l.length).getD 1 0).toNat : Int)), (8, .int .i64 (((subl y.l off y.l.length).getD 1 0).toNat : Int)), (9, .int .i64 (((((subl y.l off y.l.length).getD 0 0).toNat : Int) * 256) + (((subl y.l off y.l.length).getD 1 0).toNat : Int))), (10, .int .i64 (((((subl y.l off y.l.length).getD 0 0).toNat : Int) * 256) + (((subl y.l off y.l.length).getD 1 0).toNat : Int))), (11, .bool true)]) tf_mixed (by kernel_rfl) (by kernel_rfl) (by kernel_rfl) ?_
    refine ⟨⟨.inr ⟨_, rfl, rfl, .inl ⟨rfl, Do.move rfl⟩⟩, .inr ⟨_, rfl, rfl, .inl ⟨rfl, Do.indexL 0 (o3.rd (i := 0) rfl) Tryd.underlying22 tf_sz5 rfl rfl rfl (by omega)⟩⟩, .inr ⟨_, rfl, rfl, .inl ⟨rfl, Do.load (v := .int .u8 (((subl y.l off y.l.length).getD 0 0).toNat : Int)) tf_flat5 rfl (Rd.cell0 (o3.rd (i := 0) rfl) (getD_some 0 (by omega)) rfl)⟩⟩, .inr ⟨_, rfl, rfl, .inl ⟨rfl, Do.convInt (z := (((subl y.l off y.l.length).getD 0 0).toNat : Int)) Tryd.underlying5 Tryd.underlying3 rfl (u8_i64 _)⟩⟩, .inr ⟨_, rfl, rfl, .inl ⟨rfl, Do.shl (z := (((subl y.l off y.l.length).getD 0 0).toNat : Int) * 256) rfl rfl (by omega) (shl_eq _ _ 8 rfl (by decide) _ (by decide) (by omega) (by omega))⟩⟩, .inr ⟨_, rfl, rfl, .inl ⟨rfl, Do.move rfl⟩⟩, .inr ⟨_, rfl, rfl, .inl ⟨rfl, Do.indexL 1 (o3.rd (i := 0) rfl) Tryd.underlying22 tf_sz5 rfl rfl rfl (by omega)⟩⟩, .inr ⟨_, rfl, rfl, .inl ⟨rfl, Do.load (v := .int .u8 (((subl y.l off y.l.length).getD 1 0).toNat : Int)) tf_flat5 rfl (Rd.cell0 (o3.rd (i := 0) rfl) (getD_some 0 (by omega)) rfl)⟩⟩, .inr ⟨_, rfl, rfl, .inl ⟨rfl, Do.convInt (z := (((subl y.l off y.l.length).getD 1 0).toNat : Int)) Tryd.underlying5 Tryd.underlying3 rfl (u8_i64 _)⟩⟩, .inr ⟨_, rfl, rfl, .inl ⟨rfl, Do.bor (z := ((((subl y.l off y.l.length).getD 0 0).toNat : Int) * 256) + (((subl y.l off y.l.length).getD 1 0).toNat : Int)) rfl rfl (or_add 8 (Int.toNat (((subl y.l off y.l.length).getD 0 0).toNat : Int)) _ (by omega) rfl (by omega) (by omega))⟩⟩, .inr ⟨_, rfl, rfl, .inl ⟨rfl, Do.assign rfl⟩⟩, .inr ⟨_, rfl, rfl, .inl ⟨rfl, Do.assign rfl⟩⟩, trivial⟩, by kernel_rfl, ?_⟩
    refine At.mono (E' := [(2, .int .i64 (((((subl y.l off y.l.length).getD 0 0).toNat : Int) * 256) + (((subl y.l off y.l.length).getD 1 0).toNat : Int))), (3, .bool true)]) ⟨rfl, rfl, trivial⟩ ?_
    have hc0 : subl y.l off y.l.length = y.l.drop off := subl_from _ _
    have hlen : (y.l.drop off).length = y.l.length - off := List.length_drop
    exact At.ret Tryd.func36 rfl rfl (⟨by rw [if_pos (show 2 ≤ (y.l.drop off).length by omega), if_pos (show 2 ≤ (y.l.drop off).length by omega), ← hc0]; exact congrArg (fun z => Value.tuple #[int z, .bool true]) (by unfold szF; omega), rfl⟩)

set_option maxHeartbeats 400000 in
theorem left_ok {w0 : World} {base : Nat} {H : List Seg} {b : Nat} {y : Sl tyB 5} {m e lr : Int} {br : Bool} {off : Nat} (hl : y.l.length ≤ 500000000) (ho : off ≤ y.l.length) (hm : m ≠ 0) :
    SCalls Tryd.prog 25 [.pointer (some ⟨b, 0, none⟩)] w0 base (y.s :: [(b, .cells #[.int .i64 m, .bool br, .slice y.A y.l.length y.C, .int .i64 (off : Int), .int .i8 lr, .int .i64 e] 56 (0, 0))] :: H) (fun v H' => v = int ((y.l.drop off).length : Int) ∧ H' = y.s :: [(b, .cells #[.int .i64 m, .bool br, .slice y.A y.l.length y.C, .int .i64 (off : Int), .int .i8 lr, .int .i64 e] 56 (0, 0))] :: H) := by
  refine SCalls.of_walk (n := 9) Tryd.func25 rfl rfl rfl fun cs => ?_
  refine At.seq ?_
  refine At.region ?_
  refine AtL.assign (.inl rfl) rfl rfl ?_
  refine AtL.done ?_
  refine At.seq ?_
  refine At.seq ?_
  refine At.region ?_
  refine AtL.move (.inl rfl) rfl rfl ?_
  refine AtL.pick (H' := [(b, .cells #[.int .i64 m, .bool br, .slice y.A y.l.length y.C, .int .i64 (off : Int), .int .i8 lr, .int .i64 e] 56 (0, 0))] :: y.s :: H) [1, 0] 2 rfl rfl ?_
  refine AtL.call tf_body31 (.inl rfl) rfl rfl (none_ok (y := y) (off := off)) ?_
  rintro _ _ ⟨rfl, rfl⟩
  refine AtL.done ?_
  refine At.condIs false rfl (decide_eq_false hm) ?_
  refine At.skip ?_
  refine At.seq ?_
  refine At.region ?_
  refine AtL.move (.inl rfl) rfl rfl ?_
  refine AtL.nilCheck (.inl rfl) rfl rfl ?_
  refine AtL.fieldAddrB tf_fo56_2 (.inl rfl) rfl rfl rfl ?_
  refine AtL.pick (H' := y.s :: [(b, .cells #[.int .i64 m, .bool br, .slice y.A y.l.length y.C, .int .i64 (off : Int), .int .i8 lr, .int .i64 e] 56 (0, 0))] :: H) [1, 0] 2 rfl rfl ?_
  refine AtL.call tf_body35 (.inl rfl) rfl rfl (blen_ok (y := y) (off := off) (by omega) (by omega)) ?_
  rintro _ _ ⟨rfl, rfl⟩
  refine AtL.assign (.inl rfl) rfl rfl ?_
  refine AtL.done ?_
  exact At.ret Tryd.func25 rfl rfl (⟨by rw [List.length_drop]; rfl, rfl⟩)

set_option maxHeartbeats 400000 in
theorem left_nil {w0 : World} {base : Nat} {H : List Seg}  :
    SCalls Tryd.prog 25 [.pointer none] w0 base (H) (fun v H' => v = int 0 ∧ H' = H) := by
  refine SCalls.of_walk (n := 9) Tryd.func25 rfl rfl rfl fun cs => ?_
  refine At.seq ?_
  refine At.region ?_
  refine AtL.assign (.inl rfl) rfl rfl ?_
  refine AtL.done ?_
  refine At.seq ?_
  refine At.seq ?_
  refine At.region ?_
  refine AtL.move (.inl rfl) rfl rfl ?_
  refine AtL.call tf_body31 (.inl rfl) rfl rfl none_nil ?_
  rintro _ _ ⟨rfl, hHq⟩
  obtain rfl := hHq.symm
  refine AtL.done ?_
  refine At.condT rfl ?_
  refine At.seq ?_
  refine At.region ?_
  refine AtL.assign (.inl rfl) rfl rfl ?_
  refine AtL.done ?_
  exact At.ret Tryd.func25 rfl rfl (⟨rfl, rfl⟩)

set_option maxHeartbeats 400000 in
theorem none_zero {w0 : World} {base : Nat} {H : List Seg} {b : Nat} :
    SCalls Tryd.prog 31 [.pointer (some ⟨b, 0, none⟩)] w0 base ([(b, .cells #[.int .i64 0, .bool false, .slice none 0 0, .int .i64 0, .int .i8 0, .int .i64 0] 56 (0, 0))] :: H) (fun v H' => v = .bool true ∧ H' = [(b, .cells #[.int .i64 0, .bool false, .slice none 0 0, .int .i64 0, .int .i8 0, .int .i64 0] 56 (0, 0))] :: H) := by
  refine SCalls.of_walk (n := 12) Tryd.func31 rfl rfl rfl fun cs => ?_
  refine At.seq ?_
  refine At.region ?_
  refine AtL.assign (.inl rfl) rfl rfl ?_
  refine AtL.done ?_
  refine At.seq ?_
  refine At.region ?_
  refine AtL.move (.inl rfl) rfl rfl ?_
  refine AtL.eqPtrNil Tryd.underlying39 (.inl rfl) rfl rfl rfl ?_
  refine AtL.move (.inl rfl) rfl rfl ?_
  refine AtL.move (.inr ⟨_, _, _, rfl, rfl, rfl, rfl⟩) rfl rfl ?_
  refine AtL.nilCheck (.inr ⟨_, _, _, rfl, rfl, rfl, rfl⟩) rfl rfl ?_
  refine AtL.fieldAddrB tf_fo56_0 (.inr ⟨_, _, _, rfl, rfl, rfl, rfl⟩) rfl rfl rfl ?_
  refine AtL.load tf_flat3 (.inr ⟨_, _, _, rfl, rfl, rfl, rfl⟩) rfl rfl (Cell.own 0 0 rfl rfl rfl) ?_
  refine AtL.eqi (.inr ⟨_, _, _, rfl, rfl, rfl, rfl⟩) rfl rfl rfl ?_
  refine AtL.pickF (.inl rfl) rfl rfl rfl ?_
  refine AtL.assign (.inl rfl) rfl rfl ?_
  refine AtL.done ?_
  exact At.ret Tryd.func31 rfl rfl (⟨rfl, rfl⟩)

set_option maxHeartbeats 400000 in
theorem left_zero {w0 : World} {base : Nat} {H : List Seg} {b : Nat} :
    SCalls Tryd.prog 25 [.pointer (some ⟨b, 0, none⟩)] w0 base ([(b, .cells #[.int .i64 0, .bool false, .slice none 0 0, .int .i64 0, .int .i8 0, .int .i64 0] 56 (0, 0))] :: H) (fun v H' => v = int 0 ∧ H' = [(b, .cells #[.int .i64 0, .bool false, .slice none 0 0, .int .i64 0, .int .i8 0, .int .i64 0] 56 (0, 0))] :: H) := by
  refine SCalls.of_walk (n := 9) Tryd.func25 rfl rfl rfl fun cs => ?_
  refine At.seq ?_
  refine At.region ?_
  refine AtL.assign (.inl rfl) rfl rfl ?_
  refine AtL.done ?_
  refine At.seq ?_
  refine At.seq ?_
  refine At.region ?_
  refine AtL.move (.inl rfl) rfl rfl ?_
  refine AtL.call tf_body31 (.inl rfl) rfl rfl none_zero ?_
  rintro _ _ ⟨rfl, rfl⟩
  refine AtL.done ?_
  refine At.condT rfl ?_
  refine At.seq ?_
  refine At.region ?_
  refine AtL.assign (.inl rfl) rfl rfl ?_
  refine AtL.done ?_
  exact At.ret Tryd.func25 rfl rfl (⟨rfl, rfl⟩)

set_option maxHeartbeats 400000 in
theorem want_ok {w0 : World} {base : Nat} {H : List Seg} {b : Nat} {y : Sl tyB 5} {m e lr : Int} {br : Bool} {off : Nat} (hl : y.l.length ≤ 500000000) (ho : off ≤ y.l.length) (hm : m ≠ 0) :
    SCalls Tryd.prog 26 [.pointer (some ⟨b, 0, none⟩)] w0 base (y.s :: [(b, .cells #[.int .i64 m, .bool br, .slice y.A y.l.length y.C, .int .i64 (off : Int), .int .i8 lr, .int .i64 e] 56 (0, 0))] :: H) (fun v H' => v = int (wantF (y.l.drop off)) ∧ H' = y.s :: [(b, .cells #[.int .i64 m, .bool br, .slice y.A y.l.length y.C, .int .i64 (off : Int), .int .i8 lr, .int .i64 e] 56 (0, 0))] :: H) := by
  have hsz := szF_le (y.l.drop off)
  have hld := List.length_drop (l := y.l) (i := off)
  refine SCalls.of_walk (n := 21) Tryd.func26 rfl rfl rfl fun cs => ?_
  refine At.seq ?_
  refine At.region ?_
  refine AtL.assign (.inl rfl) rfl rfl ?_
  refine AtL.done ?_
  refine At.seq ?_
  refine At.seq ?_
  refine At.region ?_
  refine AtL.move (.inl rfl) rfl rfl ?_
  refine AtL.pick (H' := [(b, .cells #[.int .i64 m, .bool br, .slice y.A y.l.length y.C, .int .i64 (off : Int), .int .i8 lr, .int .i64 e] 56 (0, 0))] :: y.s :: H) [1, 0] 2 rfl rfl ?_
  refine AtL.call tf_body31 (.inl rfl) rfl rfl (none_ok (y := y) (off := off)) ?_
  rintro _ _ ⟨rfl, rfl⟩
  refine AtL.done ?_
  refine At.condIs false rfl (decide_eq_false hm) ?_
  refine At.skip ?_
  refine At.seq ?_
  refine At.region ?_
  refine AtL.move (.inl rfl) rfl rfl ?_
  refine AtL.pick (H' := y.s :: [(b, .cells #[.int .i64 m, .bool br, .slice y.A y.l.length y.C, .int .i64 (off : Int), .int .i8 lr, .int .i64 e] 56 (0, 0))] :: H) [1, 0] 2 rfl rfl ?_
  refine AtL.call tf_body36 (.inl rfl) rfl rfl (size_ok (y := y) (off := off) (by first | omega | (dsimp only; omega)) (by first | omega | (dsimp only; omega))) ?_
  rintro _ _ ⟨rfl, rfl⟩
  refine AtL.move (.inl rfl) rfl rfl ?_
  refine AtL.extract (.inl rfl) rfl rfl rfl ?_
  refine AtL.extract (.inl rfl) rfl rfl rfl ?_
  refine AtL.assign (.inl rfl) rfl rfl ?_
  refine AtL.assign (.inl rfl) rfl rfl ?_
  refine AtL.done ?_
  refine At.seq ?_
  refine At.seq ?_
  refine At.region ?_
  refine AtL.move (.inl rfl) rfl rfl ?_
  refine AtL.not (.inl rfl) rfl rfl ?_
  refine AtL.done ?_
  refine At.cond rfl ?_ ?_
  · intro hc2
    have hc2 : (if 2 ≤ (y.l.drop off).length then true else false) = false := bnot_true hc2
    have h2 : ¬ 2 ≤ (y.l.drop off).length := by intro h9; rw [if_pos h9] at hc2; cases hc2
    refine At.seq ?_
    refine At.region ?_
    refine AtL.assign (.inl rfl) rfl rfl ?_
    refine AtL.done ?_
    exact At.ret Tryd.func26 rfl rfl (⟨congrArg int (by rw [wantF, if_pos (by omega)]), rfl⟩)
  · intro hc2
    have hc2 : (if 2 ≤ (y.l.drop off).length then true else false) = true := bnot_false hc2
    have h2 : 2 ≤ (y.l.drop off).length := by apply Classical.byContradiction; intro h9; rw [if_neg h9] at hc2; cases hc2
    refine At.skip ?_
    refine At.seq ?_
    refine At.region ?_
    refine AtL.move (.inl rfl) rfl rfl ?_
    refine AtL.add (z := ((szF (y.l.drop off) : Int) + 2)) (.inl rfl) rfl rfl rfl (by rw [if_pos h2]; exact w64 (by omega) (by omega)) ?_
    refine AtL.move (.inl rfl) rfl rfl ?_
    refine AtL.nilCheck (.inl rfl) rfl rfl ?_
    refine AtL.fieldAddrB tf_fo56_2 (.inl rfl) rfl rfl rfl ?_
    refine AtL.call tf_body35 (.inl rfl) rfl rfl (blen_ok (y := y) (off := off) (by omega) (by omega)) ?_
    rintro _ _ ⟨rfl, rfl⟩
    refine AtL.sub (z := ((szF (y.l.drop off) : Int) + 2 - ((y.l.drop off).length : Int))) (.inl rfl) rfl rfl rfl (by rw [w64 (by omega) (by omega)]; have := List.length_drop (l := y.l) (i := off); omega) ?_
    refine AtL.assign (.inl rfl) rfl rfl ?_
    refine AtL.done ?_
    exact At.ret Tryd.func26 rfl rfl (⟨congrArg int (by rw [wantF, if_neg (by omega)]), rfl⟩)

set_option maxHeartbeats 400000 in
theorem want_nil {w0 : World} {base : Nat} {H : List Seg}  :
    SCalls Tryd.prog 26 [.pointer none] w0 base (H) (fun v H' => v = int 0 ∧ H' = H) := by
  refine SCalls.of_walk (n := 21) Tryd.func26 rfl rfl rfl fun cs => ?_
  refine At.seq ?_
  refine At.region ?_
  refine AtL.assign (.inl rfl) rfl rfl ?_
  refine AtL.done ?_
  refine At.seq ?_
  refine At.seq ?_
  refine At.region ?_
  refine AtL.move (.inl rfl) rfl rfl ?_
  refine AtL.call tf_body31 (.inl rfl) rfl rfl none_nil ?_
  rintro _ _ ⟨rfl, hHq⟩
  obtain rfl := hHq.symm
  refine AtL.done ?_
  refine At.condT rfl ?_
  refine At.seq ?_
  refine At.region ?_
  refine AtL.assign (.inl rfl) rfl rfl ?_
  refine AtL.done ?_
  exact At.ret Tryd.func26 rfl rfl (⟨rfl, rfl⟩)

set_option maxHeartbeats 400000 in
theorem want_zero {w0 : World} {base : Nat} {H : List Seg} {b : Nat} :
    SCalls Tryd.prog 26 [.pointer (some ⟨b, 0, none⟩)] w0 base ([(b, .cells #[.int .i64 0, .bool false, .slice none 0 0, .int .i64 0, .int .i8 0, .int .i64 0] 56 (0, 0))] :: H) (fun v H' => v = int 0 ∧ H' = [(b, .cells #[.int .i64 0, .bool false, .slice none 0 0, .int .i64 0, .int .i8 0, .int .i64 0] 56 (0, 0))] :: H) := by
  refine SCalls.of_walk (n := 21) Tryd.func26 rfl rfl rfl fun cs => ?_
  refine At.seq ?_
  refine At.region ?_
  refine AtL.assign (.inl rfl) rfl rfl ?_
  refine AtL.done ?_
  refine At.seq ?_
  refine At.seq ?_
  refine At.region ?_
  refine AtL.move (.inl rfl) rfl rfl ?_
  refine AtL.call tf_body31 (.inl rfl) rfl rfl none_zero ?_
  rintro _ _ ⟨rfl, rfl⟩
  refine AtL.done ?_
  refine At.condT rfl ?_
  refine At.seq ?_
  refine At.region ?_
  refine AtL.assign (.inl rfl) rfl rfl ?_
  refine AtL.done ?_
  exact At.ret Tryd.func26 rfl rfl (⟨rfl, rfl⟩)

set_option maxHeartbeats 400000 in
theorem broken_nil {w0 : World} {base : Nat} {H : List Seg}  :
    SCalls Tryd.prog 28 [.pointer none] w0 base (H) (fun v H' => v = .bool false ∧ H' = H) := by
  refine SCalls.of_walk (n := 11) Tryd.func28 rfl rfl rfl fun cs => ?_
  refine At.seq ?_
  refine At.region ?_
  refine AtL.assign (.inl rfl) rfl rfl ?_
  refine AtL.done ?_
  refine At.seq ?_
  refine At.region ?_
  refine AtL.move (.inl rfl) rfl rfl ?_
  refine AtL.nePtrNil Tryd.underlying39 (.inl rfl) rfl rfl rfl ?_
  refine AtL.move (.inl rfl) rfl rfl ?_
  refine AtL.skipped rfl rfl rfl rfl rfl rfl ?_
  refine AtL.skipped rfl rfl rfl rfl rfl rfl ?_
  refine AtL.skipped rfl rfl rfl rfl rfl rfl ?_
  refine AtL.skipped rfl rfl rfl rfl rfl rfl ?_
  refine AtL.pickF (.inl rfl) rfl rfl rfl ?_
  refine AtL.assign (.inl rfl) rfl rfl ?_
  refine AtL.done ?_
  exact At.ret Tryd.func28 rfl rfl (⟨rfl, rfl⟩)

set_option maxHeartbeats 400000 in
theorem broken_ok {w0 : World} {base : Nat} {H : List Seg} {b : Nat} {m : Int} {br : Bool} {bv ov lv ev : Value} :
    SCalls Tryd.prog 28 [.pointer (some ⟨b, 0, none⟩)] w0 base ([(b, .cells #[.int .i64 m, .bool br, bv, ov, lv, ev] 56 (0, 0))] :: H) (fun v H' => v = .bool br ∧ H' = [(b, .cells #[.int .i64 m, .bool br, bv, ov, lv, ev] 56 (0, 0))] :: H) := by
  refine SCalls.of_walk (n := 11) Tryd.func28 rfl rfl rfl fun cs => ?_
  refine At.seq ?_
  refine At.region ?_
  refine AtL.assign (.inl rfl) rfl rfl ?_
  refine AtL.done ?_
  refine At.seq ?_
  refine At.region ?_
  refine AtL.move (.inl rfl) rfl rfl ?_
  refine AtL.nePtrNil Tryd.underlying39 (.inl rfl) rfl rfl rfl ?_
  refine AtL.move (.inl rfl) rfl rfl ?_
  refine AtL.move (.inr ⟨_, _, _, rfl, rfl, rfl, rfl⟩) rfl rfl ?_
  refine AtL.nilCheck (.inr ⟨_, _, _, rfl, rfl, rfl, rfl⟩) rfl rfl ?_
  refine AtL.fieldAddrB tf_fo56_1 (.inr ⟨_, _, _, rfl, rfl, rfl, rfl⟩) rfl rfl rfl ?_
  refine AtL.load tf_flat4 (.inr ⟨_, _, _, rfl, rfl, rfl, rfl⟩) rfl rfl (Cell.own 0 0 rfl rfl rfl) ?_
  refine AtL.pickT (.inl rfl) rfl rfl rfl ?_
  refine AtL.assign (.inl rfl) rfl rfl ?_
  refine AtL.done ?_
  exact At.ret Tryd.func28 rfl rfl (⟨rfl, rfl⟩)

end Go.Proofs.YtllfgcekebafhaaDoor
