/- Heads: bytes, Write, Check. -/
import Derived.Test.YtlkdmbpbjhjkfaaGreatDoorH4
namespace Go.Proofs.YtlkdmbpbjhjkfaaGreatDoor
set_option linter.unusedVariables false
set_option linter.unusedSimpArgs false
set_option maxRecDepth 100000

def fieldsP (fs : List Fld) : List UInt8 := (fs.map fun f => fieldB f ++ [13, 10]).flatten
theorem fieldsB_p (fs : List Fld) : fieldsB fs = fieldsP fs ++ [13, 10] := by
  induction fs with
  | nil => rfl
  | cons f fs ih => rw [fieldsB, ih]; simp [fieldsP]
theorem fieldsP_snoc (fs : List Fld) (k : Nat) (h : k < fs.length) : fieldsP (fs.take (k + 1)) = fieldsP (fs.take k) ++ (fieldB (fs.getD k ([], [])) ++ [13, 10]) := by
  have h1 : fs.take (k + 1) = fs.take k ++ [fs.getD k ([], [])] := by rw [List.take_succ_eq_append_getElem h]; simp [List.getD, h]
  rw [h1]; simp [fieldsP]
def szF (fs : List Fld) : Nat := (fs.map fun f => f.1.length + f.2.length + 4).sum
theorem szF_take (fs : List Fld) : ∀ k, (fieldsP (fs.take k)).length ≤ szF fs := by
  induction fs with
  | nil => intro k; simp [fieldsP]
  | cons f fs ih =>
    intro k
    cases k with
    | zero => simp [fieldsP]
    | succ k =>
      have := ih k
      simp [fieldsP, szF, fieldB] at this ⊢
      omega
theorem szF_step (fs : List Fld) (k : Nat) (h : k < fs.length) : (fieldsP (fs.take k)).length + ((fs.getD k ([], [])).1.length + (fs.getD k ([], [])).2.length + 4) ≤ szF fs := by
  have h1 := szF_take fs (k + 1)
  rw [fieldsP_snoc fs k h] at h1
  simp only [List.length_append, fieldB, List.length_cons, List.length_nil] at h1
  omega
theorem szF_mem {fs : List Fld} {f : Fld} (h : f ∈ fs) : f.1.length + f.2.length ≤ szF fs := by
  induction fs with
  | nil => simp at h
  | cons g fs ih =>
    simp only [szF, List.map_cons, List.sum_cons]
    rcases List.mem_cons.1 h with rfl | h
    · omega
    · have := ih h; simp only [szF] at this; omega
theorem szF_le {fs : List Fld} {B : Nat} (h : ∀ f ∈ fs, f.1.length ≤ B ∧ f.2.length ≤ B) : szF fs ≤ fs.length * (2 * B + 4) := by
  induction fs with
  | nil => simp [szF]
  | cons g fs ih =>
    have h1 := h g (by simp)
    have h2 := ih (fun f hf => h f (by simp [hf]))
    simp only [szF, List.map_cons, List.sum_cons, List.length_cons, Nat.add_mul] at h2 ⊢
    omega

set_option maxHeartbeats 400000 in
theorem bytes_ok {w0 : World} {base : Nat} {H : List Seg} {m t : List UInt8} {A : Option Addr} {C : Nat} {fs : List (List UInt8 × List UInt8)} (h : Rd tyField w0 base H A C fs) (hfl : fs.length ≤ 1000) (htot : m.length + t.length + szF fs ≤ 140737488354000) (n : Nat) (hn : n < 10) :
    SCalls Tryz.prog 87 [.agg #[str m, str t, .int .i64 (n : Int), .slice A fs.length C]] w0 base (H) (fun v H' => ∃ x : Sl tyB 5, x.l = headB ⟨m, t, (n : Int), fs⟩ ∧ v = .slice x.A x.l.length x.C ∧ H' = x.s :: H) := by
  have hle0 := h.le
  have hcap0 := h.cap
  refine SCalls.of_walk (n := 40) Tryz.func87 rfl rfl rfl fun cs => ?_
  refine At.seq ?_
  refine At.region ?_
  refine AtL.box (cs := #[str m, str t, .int .i64 (n : Int), .slice A fs.length C]) rfl (.inl rfl) rfl rfl ?_
  intro b1
  refine AtL.assign (.inl rfl) rfl rfl ?_
  refine AtL.done ?_
  refine At.seq ?_
  refine At.region ?_
  refine AtL.fieldAddrB tf_fo47_0 (.inl rfl) rfl rfl rfl ?_
  refine AtL.load tf_flat9 (.inl rfl) rfl rfl (Cell.own 0 0 rfl rfl rfl) ?_
  refine AtL.bytesOf (l := m) Tryz.underlying9 Tryz.underlying22 Tryz.underlying5 (by first | omega | (simp only [List.length_append, List.length_cons, List.length_nil]; omega) | (simp; done) | (simp; omega)) (.inl rfl) rfl rfl ?_
  intro A2 C3 s4 n6 o5
  refine AtL.buildSlice (cs := [.int .u8 32]) Tryz.underlying22 tf_zero5 tf_sz5 rfl rfl (.inl rfl) rfl rfl rfl ?_
  intro b7
  refine AtL.own1 tyB (l := ([32] : List UInt8)) rfl rfl (by first | decide | simp) ?_
  intro s8 o9
  refine AtL.append (l := m) (news := [32]) 1 tf_el22 rfl o5 (o9.rd (i := 0) rfl) (by first | omega | (simp only [List.length_append, List.length_cons, List.length_nil]; omega) | (simp; done) | (simp; omega)) (.inl rfl) rfl rfl rfl ?_
  intro A10 C11 s12 o13
  refine AtL.assign (.inl rfl) rfl rfl ?_
  refine AtL.done ?_
  refine At.seq ?_
  refine At.region ?_
  refine AtL.move (.inl rfl) rfl rfl ?_
  refine AtL.fieldAddrB tf_fo47_1 (.inl rfl) rfl rfl rfl ?_
  refine AtL.load tf_flat9 (.inl rfl) rfl rfl (Cell.own 2 0 rfl rfl rfl) ?_
  refine AtL.appendS (l := m ++ [32]) (news := t) 1 tf_el22 Tryz.underlying9 rfl o13 (by first | omega | (simp only [List.length_append, List.length_cons, List.length_nil]; omega) | (simp; done) | (simp; omega)) (.inl rfl) rfl rfl rfl ?_
  intro A14 C15 s16 o17
  refine AtL.appendS (l := (m ++ [32]) ++ t) (news := [32, 72, 84, 84, 80, 47, 49, 46]) 1 tf_el22 Tryz.underlying9 rfl o17 (by first | omega | (simp only [List.length_append, List.length_cons, List.length_nil]; omega) | (simp; done) | (simp; omega)) (.inl rfl) rfl rfl rfl ?_
  intro A18 C19 s20 o21
  refine AtL.assign (.inl rfl) rfl rfl ?_
  refine AtL.done ?_
  refine At.seq ?_
  refine At.region ?_
  refine AtL.move (.inl rfl) rfl rfl ?_
  refine AtL.fieldAddrB tf_fo47_2 (.inl rfl) rfl rfl rfl ?_
  refine AtL.load tf_flat3 (.inl rfl) rfl rfl (Cell.own 2 0 rfl rfl rfl) ?_
  refine AtL.pick (H' := s20 :: s8 :: [(b1, .cells #[str m, str t, .int .i64 (n : Int), .slice A fs.length C] 47 (0, 0))] :: H) [1, 0, 2] 3 rfl rfl ?_
  refine AtL.call tf_body127 (.inl rfl) rfl rfl (appi_ok (y := ⟨A18, C19, ((m ++ [32]) ++ t) ++ [32, 72, 84, 84, 80, 47, 49, 46], s20, o21⟩) (by first | omega | (simp only [List.length_append, List.length_cons, List.length_nil]; omega) | (simp; done) | (simp; omega)) n (by omega)) ?_
  rintro _ _ ⟨⟨A22, C23, l24, s25, o26⟩, hx27, rfl, rfl⟩
  obtain rfl : (((m ++ [32]) ++ t) ++ [32, 72, 84, 84, 80, 47, 49, 46]) ++ [UInt8.ofNat (48 + n)] = l24 := hx27.symm
  refine AtL.appendS (l := (((m ++ [32]) ++ t) ++ [32, 72, 84, 84, 80, 47, 49, 46]) ++ [UInt8.ofNat (48 + n)]) (news := [13, 10]) 0 tf_el22 Tryz.underlying9 rfl o26 (by first | omega | (simp only [List.length_append, List.length_cons, List.length_nil]; omega) | (simp; done) | (simp; omega)) (.inl rfl) rfl rfl rfl ?_
  intro A28 C29 s30 o31
  refine AtL.assign (.inl rfl) rfl rfl ?_
  refine AtL.done ?_
  refine At.seq ?_
  refine At.seq ?_
  refine At.region ?_
  refine AtL.fieldAddrB tf_fo47_3 (.inl rfl) rfl rfl rfl ?_
  refine AtL.load tf_flat45 (.inl rfl) rfl rfl (Cell.own 2 0 rfl rfl rfl) ?_
  refine AtL.lenL Tryz.underlying45 (.inl rfl) rfl rfl ?_
  refine AtL.move (.inl rfl) rfl rfl ?_
  refine AtL.done ?_
  refine At.block ?_
  refine At.pick (H' := s30 :: H) [0] 3 rfl rfl ?_
  refine At.loop2 (fun (k : Nat) (x : Sl tyB 5) => [(3, .slice x.A x.l.length x.C), (22, .slice A fs.length C), (23, .int .i64 (fs.length : Int)), (24, .int .i64 (k : Int))]) (fun (k : Nat) (x : Sl tyB 5) => x.s :: H) (fun (k : Nat) (x : Sl tyB 5) => k ≤ fs.length ∧ x.l = lineB ⟨m, t, (n : Int), fs⟩ ++ [13, 10] ++ fieldsP (fs.take k)) (fun (k : Nat) (x : Sl tyB 5) => fs.length - k) 0 (⟨A28, C29, ((((m ++ [32]) ++ t) ++ [32, 72, 84, 84, 80, 47, 49, 46]) ++ [UInt8.ofNat (48 + n)]) ++ [13, 10], s30, o31⟩) (⟨Nat.zero_le _, by simp [lineB, HTTP1, fieldsP]⟩) ⟨rfl, rfl, rfl, rfl, trivial⟩ rfl ?_
  rintro k x ⟨hk, hx⟩ ihL1
  have hpl := szF_take fs k
  have hxl : x.l.length = m.length + t.length + 12 + (fieldsP (fs.take k)).length := by rw [hx]; simp [lineB, HTTP1]; omega
  refine At.seq ?_
  refine At.region ?_
  refine AtL.lss (.inl rfl) rfl rfl rfl ?_
  refine AtL.done ?_
  refine At.seq ?_
  refine At.cond rfl ?_ ?_
  · intro hc1
    have hc1 : (k : Int) < (fs.length : Int) := of_decide_eq_true hc1
    have hbk := szF_step fs k (by omega)
    refine At.skip ?_
    refine At.seq ?_
    refine At.block ?_
    refine At.seq ?_
    refine At.region ?_
    refine AtL.indexL k (Rd.skip 1 h) Tryz.underlying45 tf_sz78 (.inl rfl) rfl rfl rfl rfl (by omega) ?_
    refine AtL.loadE (n := 0) (Rd.skip 1 h) (getD_some (([], []) : List UInt8 × List UInt8) (by omega)) rfl tf_agg78 (.inl rfl) rfl rfl ?_
    refine AtL.alloc tf_zero78 (cs := #[str [], str []]) rfl (.inl rfl) rfl ?_
    intro b32
    refine AtL.store (H' := [(b32, .cells #[str ((fs.getD k (([], []) : List UInt8 × List UInt8)).1), str ((fs.getD k (([], []) : List UInt8 × List UInt8)).2)] 78 (0, 0))] :: x.s :: H) 0 0 tf_sz78 (.inl rfl) rfl rfl rfl rfl rfl rfl rfl rfl rfl ?_
    refine AtL.done ?_
    refine At.draw (es := [3, 4, 7, 8]) (pv := [(0, .slice x.A x.l.length x.C), (1, .pointer (some ⟨b32, 0, none⟩)), (2, str ((fs.getD k (([], []) : List UInt8 × List UInt8)).1)), (5, .pointer (some ⟨b32, 1, none⟩)), (6, str ((fs.getD k (([], []) : List UInt8 × List UInt8)).2))]) tf_mixed (by kernel_rfl) (by kernel_rfl) (by kernel_rfl) ?_
    refine ⟨⟨.inr ⟨_, rfl, rfl, .inl ⟨rfl, Do.move rfl⟩⟩, .inr ⟨_, rfl, rfl, .inl ⟨rfl, Do.fieldAddrB tf_fo78_0 rfl rfl⟩⟩, .inr ⟨_, rfl, rfl, .inl ⟨rfl, Do.load tf_flat9 rfl (Cell.own 0 0 rfl rfl rfl)⟩⟩, .inr ⟨_, rfl, rfl, .inl ⟨rfl, Do.fieldAddrB tf_fo78_1 rfl rfl⟩⟩, .inr ⟨_, rfl, rfl, .inl ⟨rfl, Do.load tf_flat9 rfl (Cell.own 0 0 rfl rfl rfl)⟩⟩, trivial⟩, rfl, rfl, by kernel_rfl, _, rfl, rfl, rfl, _, Do.appendS (l := x.l) (news := (fs.getD k (([], []) : List UInt8 × List UInt8)).1) 1 tf_el22 Tryz.underlying9 rfl x.own (by first | omega | (simp only [List.length_append, List.length_cons, List.length_nil]; omega) | (simp; done) | (simp; omega)) rfl rfl, ?_⟩
    rintro _ _ ⟨A33, C34, s35, o36, rfl, rfl⟩
    refine ⟨[], rfl, ?_⟩
    refine ⟨⟨.inl (by kernel_rfl), .inl (by kernel_rfl), .inl (by kernel_rfl), .inr ⟨_, rfl, rfl, .inl ⟨rfl, Do.fieldAddrB tf_fo78_1 rfl rfl⟩⟩, .inr ⟨_, rfl, rfl, .inl ⟨rfl, Do.load tf_flat9 rfl (Cell.own 0 0 rfl rfl rfl)⟩⟩, trivial⟩, rfl, rfl, by kernel_rfl, _, rfl, rfl, rfl, _, Do.appendS (l := x.l ++ ((fs.getD k (([], []) : List UInt8 × List UInt8)).1)) (news := [58, 32]) 1 tf_el22 Tryz.underlying9 rfl o36 (by first | omega | (simp only [List.length_append, List.length_cons, List.length_nil]; omega) | (simp; done) | (simp; omega)) rfl rfl, ?_⟩
    rintro _ _ ⟨A37, C38, s39, o40, rfl, rfl⟩
    refine ⟨[], rfl, ?_⟩
    refine ⟨⟨.inl (by kernel_rfl), .inl (by kernel_rfl), .inl (by kernel_rfl), .inr ⟨_, rfl, rfl, .inl ⟨rfl, Do.fieldAddrB tf_fo78_1 rfl rfl⟩⟩, .inr ⟨_, rfl, rfl, .inl ⟨rfl, Do.load tf_flat9 rfl (Cell.own 0 0 rfl rfl rfl)⟩⟩, trivial⟩, rfl, rfl, by kernel_rfl, _, rfl, rfl, rfl, _, Do.appendS (l := (x.l ++ ((fs.getD k (([], []) : List UInt8 × List UInt8)).1)) ++ [58, 32]) (news := (fs.getD k (([], []) : List UInt8 × List UInt8)).2) 1 tf_el22 Tryz.underlying9 rfl o40 (by first | omega | (simp only [List.length_append, List.length_cons, List.length_nil]; omega) | (simp; done) | (simp; omega)) rfl rfl, ?_⟩
    rintro _ _ ⟨A41, C42, s43, o44, rfl, rfl⟩
    refine ⟨[], rfl, ?_⟩
    refine ⟨⟨.inl (by kernel_rfl), .inl (by kernel_rfl), .inl (by kernel_rfl), .inl (by kernel_rfl), .inl (by kernel_rfl), trivial⟩, rfl, rfl, by kernel_rfl, _, rfl, rfl, rfl, _, Do.appendS (l := ((x.l ++ ((fs.getD k (([], []) : List UInt8 × List UInt8)).1)) ++ [58, 32]) ++ ((fs.getD k (([], []) : List UInt8 × List UInt8)).2)) (news := [13, 10]) 1 tf_el22 Tryz.underlying9 rfl o44 (by first | omega | (simp only [List.length_append, List.length_cons, List.length_nil]; omega) | (simp; done) | (simp; omega)) rfl rfl, ?_⟩
    rintro _ _ ⟨A45, C46, s47, o48, rfl, rfl⟩
    refine ⟨[(9, .slice A45 ((((x.l ++ ((fs.getD k (([], []) : List UInt8 × List UInt8)).1)) ++ [58, 32]) ++ ((fs.getD k (([], []) : List UInt8 × List UInt8)).2)) ++ [13, 10]).length C46)], rfl, ?_⟩
    refine ⟨⟨.inr ⟨_, rfl, rfl, .inl ⟨rfl, Do.assign rfl⟩⟩, .inl (by kernel_rfl), .inl (by kernel_rfl), .inl (by kernel_rfl), .inl (by kernel_rfl), .inl (by kernel_rfl), trivial⟩, by kernel_rfl, ?_⟩
    refine At.mono (E' := [(3, .slice A45 ((((x.l ++ ((fs.getD k (([], []) : List UInt8 × List UInt8)).1)) ++ [58, 32]) ++ ((fs.getD k (([], []) : List UInt8 × List UInt8)).2)) ++ [13, 10]).length C46), (22, .slice A fs.length C), (23, .int .i64 (fs.length : Int)), (24, .int .i64 (k : Int))]) ⟨rfl, rfl, rfl, rfl, trivial⟩ ?_
    refine At.inBlock ?_
    refine At.region ?_
    refine AtL.add (z := (k : Int) + 1) (.inl rfl) rfl rfl rfl (w64 (by omega) (by omega)) ?_
    refine AtL.move (.inl rfl) rfl rfl ?_
    refine AtL.done ?_
    refine At.pick (H' := s47 :: H) [1] 2 rfl rfl ?_
    refine ihL1 (k + 1) (⟨A45, C46, (((x.l ++ ((fs.getD k (([], []) : List UInt8 × List UInt8)).1)) ++ [58, 32]) ++ ((fs.getD k (([], []) : List UInt8 × List UInt8)).2)) ++ [13, 10], s47, o48⟩) (⟨by omega, by rw [fieldsP_snoc _ _ (by omega), ← List.append_assoc, ← hx]; simp [fieldB]⟩) (by omega) _ ?_
    exact ⟨(by first | rfl | exact slLen (by simp []) | exact intEq (by omega) | exact intEq (by simp []) | exact slLen (by simp []; omega)), rfl, rfl, (by first | rfl | exact slLen (by simp []) | exact intEq (by omega) | exact intEq (by simp []) | exact slLen (by simp []; omega)), trivial⟩
  · intro hc1
    have hc1 : ¬ ((k : Int) < (fs.length : Int)) := of_decide_eq_false hc1
    refine At.exit rfl ?_
    refine At.seq ?_
    refine At.region ?_
    refine AtL.move (.inl rfl) rfl rfl ?_
    refine AtL.appendS (l := x.l) (news := [13, 10]) 0 tf_el22 Tryz.underlying9 rfl x.own (by first | omega | (simp only [List.length_append, List.length_cons, List.length_nil]; omega) | (simp; done) | (simp; omega)) (.inl rfl) rfl rfl rfl ?_
    intro A65 C66 s67 o68
    refine AtL.assign (.inl rfl) rfl rfl ?_
    refine AtL.done ?_
    exact At.ret Tryz.func87 rfl rfl (⟨⟨A65, C66, x.l ++ [13, 10], s67, o68⟩, by rw [List.take_of_length_le (show fs.length ≤ k by omega)] at hx; rw [headB, fieldsB_p]; simp only [hx]; simp, rfl, rfl⟩)

def writeE (h : HeadV) : Int := if writeOk h = true then 0 else 2
def writeL (h : HeadV) : List UInt8 := if writeOk h = true then headB h else []
theorem ok_minor {m t : List UInt8} {minor : Int} {fs : List Fld} (h : okF ⟨m, t, minor, fs⟩ = true) : ∃ n : Nat, n < 2 ∧ minor = (n : Int) := by
  simp only [okF, Bool.and_eq_true, decide_eq_true_eq] at h
  obtain ⟨⟨⟨⟨⟨⟨_, _⟩, _⟩, h2⟩, _⟩, _⟩, _⟩ := h
  exact ⟨minor.toNat, by omega, by omega⟩

set_option maxHeartbeats 400000 in
theorem write_ok {w0 : World} {base : Nat} {H : List Seg} {m t : List UInt8} {minor : Int} {A : Option Addr} {C : Nat} {fs : List (List UInt8 × List UInt8)} (h : Rd tyField w0 base H A C fs) (hfl : fs.length ≤ 1000) (htot : m.length + t.length + szF fs ≤ 140737488354000) :
    SCalls Tryz.prog 52 [.agg #[str m, str t, .int .i64 minor, .slice A fs.length C]] w0 base (H) (fun v H' => ∃ x : Sl tyB 5, x.l = writeL ⟨m, t, minor, fs⟩ ∧ v = .tuple #[.slice x.A x.l.length x.C, int (writeE ⟨m, t, minor, fs⟩)] ∧ H' = x.s :: H) := by
  have hb : ∀ f ∈ fs, f.1.length ≤ 140737488355000 ∧ f.2.length ≤ 140737488355000 := fun f hf => by have := szF_mem hf; omega
  refine SCalls.of_walk (n := 14) Tryz.func52 rfl rfl rfl fun cs => ?_
  refine At.seq ?_
  refine At.region ?_
  refine AtL.box (cs := #[str m, str t, .int .i64 minor, .slice A fs.length C]) rfl (.inl rfl) rfl rfl ?_
  intro b1
  refine AtL.assign (.inl rfl) rfl rfl ?_
  refine AtL.assign (.inl rfl) rfl rfl ?_
  refine AtL.done ?_
  refine At.seq ?_
  refine At.seq ?_
  refine At.region ?_
  refine AtL.loadN (cs := [str m, str t, .int .i64 minor, .slice A fs.length C]) tf_agg47 (.inl rfl) rfl rfl rfl (cellsOwn 0 0 0 rfl rfl rfl) ?_
  refine AtL.call tf_body86 (.inl rfl) rfl rfl (fine_ok (fs := fs) (Rd.skip 1 h) hfl hb (by omega) (by omega)) ?_
  rintro _ _ ⟨rfl, rfl⟩
  refine AtL.not (.inl rfl) rfl rfl ?_
  refine AtL.done ?_
  refine At.cond rfl ?_ ?_
  · intro hc1
    have hc1 : (okF ⟨m, t, minor, fs⟩) = false := bnot_true hc1
    refine At.seq ?_
    refine At.region ?_
    refine AtL.assign (.inl rfl) rfl rfl ?_
    refine AtL.assign (.inl rfl) rfl rfl ?_
    refine AtL.done ?_
    refine At.nil ?_
    refine At.pick (H' := [] :: H) [0] 2 rfl rfl ?_
    have hw : ¬ writeOk ⟨m, t, minor, fs⟩ = true := by rw [writeOk, hc1]; simp
    exact At.ret Tryz.func52 rfl rfl (⟨Sl.nil, by rw [writeL, if_neg hw]; rfl, by rw [writeE, if_neg hw]; rfl, rfl⟩)
  · intro hc1
    have hc1 : (okF ⟨m, t, minor, fs⟩) = true := bnot_false hc1
    have hok : okF ⟨m, t, minor, fs⟩ = true := by simpa using hc1
    obtain ⟨n, hn, hmn⟩ := ok_minor hok
    subst hmn
    refine At.skip ?_
    refine At.seq ?_
    refine At.region ?_
    refine AtL.loadN (cs := [str m, str t, .int .i64 (n : Int), .slice A fs.length C]) tf_agg47 (.inl rfl) rfl rfl rfl (cellsOwn 0 0 0 rfl rfl rfl) ?_
    refine AtL.call tf_body87 (.inl rfl) rfl rfl (bytes_ok (fs := fs) (Rd.skip 1 h) hfl htot n (by omega)) ?_
    rintro _ _ ⟨⟨A2, C3, l4, s5, o6⟩, hx7, rfl, rfl⟩
    obtain rfl : headB ⟨m, t, (n : Int), fs⟩ = l4 := hx7.symm
    refine AtL.assign (.inl rfl) rfl rfl ?_
    refine AtL.done ?_
    refine At.seq ?_
    refine At.seq ?_
    refine At.region ?_
    refine AtL.move (.inl rfl) rfl rfl ?_
    refine AtL.lenL Tryz.underlying22 (.inl rfl) rfl rfl ?_
    refine AtL.gtr (.inl rfl) rfl rfl rfl ?_
    refine AtL.done ?_
    refine At.cond rfl ?_ ?_
    · intro hc2
      have hc2 : 4096 < ((headB ⟨m, t, (n : Int), fs⟩).length : Int) := of_decide_eq_true hc2
      refine At.seq ?_
      refine At.region ?_
      refine AtL.assign (.inl rfl) rfl rfl ?_
      refine AtL.assign (.inl rfl) rfl rfl ?_
      refine AtL.done ?_
      refine At.nil ?_
      refine At.pick (H' := [] :: H) [0] 3 rfl rfl ?_
      have hw : ¬ writeOk ⟨m, t, (n : Int), fs⟩ = true := by rw [writeOk, hok, decide_eq_false (show ¬ (headB ⟨m, t, (n : Int), fs⟩).length ≤ 4096 by omega)]; simp
      exact At.ret Tryz.func52 rfl rfl (⟨Sl.nil, by rw [writeL, if_neg hw]; rfl, by rw [writeE, if_neg hw]; rfl, rfl⟩)
    · intro hc2
      have hc2 : ¬ (4096 < ((headB ⟨m, t, (n : Int), fs⟩).length : Int)) := of_decide_eq_false hc2
      refine At.skip ?_
      refine At.seq ?_
      refine At.region ?_
      refine AtL.move (.inl rfl) rfl rfl ?_
      refine AtL.assign (.inl rfl) rfl rfl ?_
      refine AtL.assign (.inl rfl) rfl rfl ?_
      refine AtL.done ?_
      refine At.pick (H' := s5 :: H) [0] 2 rfl rfl ?_
      have hw : writeOk ⟨m, t, (n : Int), fs⟩ = true := by rw [writeOk, hok, decide_eq_true (show (headB ⟨m, t, (n : Int), fs⟩).length ≤ 4096 by omega)]; rfl
      exact At.ret Tryz.func52 rfl rfl (⟨⟨A2, C3, headB ⟨m, t, (n : Int), fs⟩, s5, o6⟩, by rw [writeL, if_pos hw], by rw [writeE, if_pos hw]; rfl, rfl⟩)

set_option maxHeartbeats 400000 in
theorem write_no {w0 : World} {base : Nat} {H : List Seg} {m t : List UInt8} {minor : Int} {A : Option Addr} {C : Nat} {fs : List (List UInt8 × List UInt8)} (h : Rd tyField w0 base H A C fs) (hfl : fs.length ≤ 1000) (hb : ∀ f ∈ fs, f.1.length ≤ 140737488355000 ∧ f.2.length ≤ 140737488355000) (hm : m.length ≤ 140737488355000) (ht : t.length ≤ 140737488355000) (hno : okF ⟨m, t, minor, fs⟩ = false) :
    SCalls Tryz.prog 52 [.agg #[str m, str t, .int .i64 minor, .slice A fs.length C]] w0 base (H) (fun v H' => v = .tuple #[.slice none 0 0, int 2] ∧ H' = H) := by
  refine SCalls.of_walk (n := 14) Tryz.func52 rfl rfl rfl fun cs => ?_
  refine At.seq ?_
  refine At.region ?_
  refine AtL.box (cs := #[str m, str t, .int .i64 minor, .slice A fs.length C]) rfl (.inl rfl) rfl rfl ?_
  intro b1
  refine AtL.assign (.inl rfl) rfl rfl ?_
  refine AtL.assign (.inl rfl) rfl rfl ?_
  refine AtL.done ?_
  refine At.seq ?_
  refine At.seq ?_
  refine At.region ?_
  refine AtL.loadN (cs := [str m, str t, .int .i64 minor, .slice A fs.length C]) tf_agg47 (.inl rfl) rfl rfl rfl (cellsOwn 0 0 0 rfl rfl rfl) ?_
  refine AtL.call tf_body86 (.inl rfl) rfl rfl (fine_ok (fs := fs) (Rd.skip 1 h) hfl hb hm ht) ?_
  rintro _ _ ⟨rfl, rfl⟩
  refine AtL.not (.inl rfl) rfl rfl ?_
  refine AtL.done ?_
  refine At.condIs true rfl (by rw [hno]; rfl) ?_
  refine At.seq ?_
  refine At.region ?_
  refine AtL.assign (.inl rfl) rfl rfl ?_
  refine AtL.assign (.inl rfl) rfl rfl ?_
  refine AtL.done ?_
  refine At.pick (H' := H) [] 1 rfl rfl ?_
  exact At.ret Tryz.func52 rfl rfl (⟨rfl, rfl⟩)

set_option maxHeartbeats 400000 in
theorem check_no {w0 : World} {base : Nat} {H : List Seg} {m t : List UInt8} {minor : Int} {A : Option Addr} {C : Nat} {fs : List (List UInt8 × List UInt8)} (h : Rd tyField w0 base H A C fs) (hfl : fs.length ≤ 1000) (hb : ∀ f ∈ fs, f.1.length ≤ 140737488355000 ∧ f.2.length ≤ 140737488355000) (hm : m.length ≤ 140737488355000) (ht : t.length ≤ 140737488355000) (hno : okF ⟨m, t, minor, fs⟩ = false) :
    SCalls Tryz.prog 155 [.agg #[str m, str t, .int .i64 minor, .slice A fs.length C]] w0 base (H) (fun v H' => v = int 2 ∧ H' = H) := by
  refine SCalls.of_walk (n := 11) Tryz.func155 rfl rfl rfl fun cs => ?_
  refine At.seq ?_
  refine At.region ?_
  refine AtL.box (cs := #[str m, str t, .int .i64 minor, .slice A fs.length C]) rfl (.inl rfl) rfl rfl ?_
  intro b1
  refine AtL.assign (.inl rfl) rfl rfl ?_
  refine AtL.done ?_
  refine At.seq ?_
  refine At.region ?_
  refine AtL.loadN (cs := [str m, str t, .int .i64 minor, .slice A fs.length C]) tf_agg47 (.inl rfl) rfl rfl rfl (cellsOwn 0 0 0 rfl rfl rfl) ?_
  refine AtL.call tf_body52 (.inl rfl) rfl rfl (write_no (m := m) (t := t) (minor := minor) (fs := fs) (Rd.skip 1 h) hfl hb hm ht hno) ?_
  rintro _ _ ⟨rfl, rfl⟩
  refine AtL.move (.inl rfl) rfl rfl ?_
  refine AtL.extract (.inl rfl) rfl rfl rfl ?_
  refine AtL.extract (.inl rfl) rfl rfl rfl ?_
  refine AtL.assign (.inl rfl) rfl rfl ?_
  refine AtL.assign (.inl rfl) rfl rfl ?_
  refine AtL.done ?_
  refine At.seq ?_
  refine At.region ?_
  refine AtL.move (.inl rfl) rfl rfl ?_
  refine AtL.assign (.inl rfl) rfl rfl ?_
  refine AtL.done ?_
  refine At.pick (H' := H) [] 1 rfl rfl ?_
  exact At.ret Tryz.func155 rfl rfl (⟨rfl, rfl⟩)

set_option maxHeartbeats 400000 in
theorem check_ok {w0 : World} {base : Nat} {H : List Seg} {m t : List UInt8} {minor : Int} {A : Option Addr} {C : Nat} {fs : List (List UInt8 × List UInt8)} (h : Rd tyField w0 base H A C fs) (hfl : fs.length ≤ 1000) (htot : m.length + t.length + szF fs ≤ 140737488354000) :
    SCalls Tryz.prog 155 [.agg #[str m, str t, .int .i64 minor, .slice A fs.length C]] w0 base (H) (fun v H' => v = int (writeE ⟨m, t, minor, fs⟩) ∧ H' = H) := by
  refine SCalls.of_walk (n := 11) Tryz.func155 rfl rfl rfl fun cs => ?_
  refine At.seq ?_
  refine At.region ?_
  refine AtL.box (cs := #[str m, str t, .int .i64 minor, .slice A fs.length C]) rfl (.inl rfl) rfl rfl ?_
  intro b1
  refine AtL.assign (.inl rfl) rfl rfl ?_
  refine AtL.done ?_
  refine At.seq ?_
  refine At.region ?_
  refine AtL.loadN (cs := [str m, str t, .int .i64 minor, .slice A fs.length C]) tf_agg47 (.inl rfl) rfl rfl rfl (cellsOwn 0 0 0 rfl rfl rfl) ?_
  refine AtL.call tf_body52 (.inl rfl) rfl rfl (write_ok (m := m) (t := t) (minor := minor) (fs := fs) (Rd.skip 1 h) hfl htot) ?_
  rintro _ _ ⟨⟨A2, C3, l4, s5, o6⟩, hx7, rfl, rfl⟩
  obtain rfl : writeL ⟨m, t, minor, fs⟩ = l4 := hx7.symm
  refine AtL.move (.inl rfl) rfl rfl ?_
  refine AtL.extract (.inl rfl) rfl rfl rfl ?_
  refine AtL.extract (.inl rfl) rfl rfl rfl ?_
  refine AtL.assign (.inl rfl) rfl rfl ?_
  refine AtL.assign (.inl rfl) rfl rfl ?_
  refine AtL.done ?_
  refine At.seq ?_
  refine At.region ?_
  refine AtL.move (.inl rfl) rfl rfl ?_
  refine AtL.assign (.inl rfl) rfl rfl ?_
  refine AtL.done ?_
  refine At.pick (H' := H) [] 2 rfl rfl ?_
  exact At.ret Tryz.func155 rfl rfl (⟨rfl, rfl⟩)

end Go.Proofs.YtlkdmbpbjhjkfaaGreatDoor
