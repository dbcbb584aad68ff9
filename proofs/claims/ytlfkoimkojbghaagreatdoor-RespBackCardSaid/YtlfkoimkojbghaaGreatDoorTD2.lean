/- Responses: parse, Read. -/
import Derived.Test.YtlfkoimkojbghaaGreatDoorTD1
namespace Go.Proofs.YtlfkoimkojbghaaGreatDoor
set_option linter.unusedVariables false
set_option linter.unusedSimpArgs false
set_option maxRecDepth 100000

theorem linesP_at {ok : Bool} {st : Int} {body : List UInt8} {acc : List Fld} {L : List (List UInt8)} {k : Nat} (h : k < L.length) : linesP ok st body acc (L.drop k) = if (Lib.cut (L.getD k []) [58, 32]).1 ≠ CL1 then linesP ok st body (acc ++ [((Lib.cut (L.getD k []) [58, 32]).1, (Lib.cut (L.getD k []) [58, 32]).2.1)]) (L.drop (k + 1))
    else if (((((Lib.cut (L.getD k []) [58, 32]).2.2 = false ∨ ok = false) ∨ atoiK (Lib.cut (L.getD k []) [58, 32]).2.1 = false) ∨ atoiV (Lib.cut (L.getD k []) [58, 32]).2.1 < 0) ∨ (body.length : Int) < atoiV (Lib.cut (L.getD k []) [58, 32]).2.1) then none
    else some ⟨st, acc, body.take (atoiV (Lib.cut (L.getD k []) [58, 32]).2.1).toNat, decide (L.drop (k + 1) = [])⟩ := by
  rw [List.drop_eq_getElem_cons h]
  have e : L[k] = L.getD k [] := by simp [List.getD, h]
  rw [e, linesP]
theorem linesP_le {ok : Bool} {st : Int} {body : List UInt8} {n : Nat} (L : List (List UInt8)) (acc : List Fld) {r : RespV} (hL : ∀ x ∈ L, x.length ≤ n) (ha : ∀ f ∈ acc, f.1.length ≤ n ∧ f.2.length ≤ n) (h : linesP ok st body acc L = some r) : (∀ f ∈ r.fs, f.1.length ≤ n ∧ f.2.length ≤ n) ∧ r.body.length ≤ body.length := by
  induction L generalizing acc with
  | nil => rw [linesP] at h; cases h
  | cons x L ih =>
    have hx := hL x (by simp)
    have hc := cutW_le [58, 32] x
    rw [linesP] at h
    split at h
    · refine ih _ (fun y hy => hL y (by simp [hy])) ?_ h
      intro f hf
      rcases List.mem_append.1 hf with hf | hf
      · exact ha f hf
      · simp only [List.mem_singleton] at hf; subst hf; exact ⟨by dsimp only; omega, by dsimp only; omega⟩
    · split at h
      · cases h
      · cases h; exact ⟨ha, by rw [List.length_take]; omega⟩
theorem rparse_le {b : List UInt8} {r : RespV} (h : rparseF b = some r) : (∀ f ∈ r.fs, f.1.length ≤ b.length ∧ f.2.length ≤ b.length) ∧ r.body.length ≤ b.length := by
  unfold rparseF at h
  split at h
  · cases h
  · split at h
    · cases h
    · have := linesP_le _ _ (n := b.length) (fun x hx => by
        have h1 := splitK_le [13, 10] _ _ x (List.mem_of_mem_drop hx)
        rw [List.length_take] at h1; omega) (fun f hf => absurd hf (by simp)) h
      rw [List.length_drop] at this
      exact ⟨this.1, by omega⟩
theorem rp_le {b : List UInt8} {R : RespV} (h : R = (rparseF b).getD RespV.zero) : (∀ f ∈ R.fs, f.1.length ≤ b.length ∧ f.2.length ≤ b.length) ∧ R.body.length ≤ b.length := by
  cases hp : rparseF b with
  | none => rw [hp] at h; subst h; exact ⟨fun f hf => absurd hf (by simp [RespV.zero]), by simp [RespV.zero]⟩
  | some r => rw [hp] at h; subst h; exact rparse_le hp

set_option maxHeartbeats 400000 in
theorem rparse15_ok {w0 : World} {base : Nat} {H : List Seg} {A : Option Addr} {C : Nat} {b : List UInt8} (h : Rd tyB w0 base H A C b) (hbl : b.length ≤ 4294967280) (T : Tabs w0 base) (ET : ErrTab w0 base) :
    SCalls Tryz.prog 91 [.slice A b.length C] w0 base (H) (fun v H' => ∃ R : RespV, R = (rparseF b).getD RespV.zero ∧ ∃ (x : Sl tyField 52) (y : Sl tyB 5), x.l = R.fs ∧ y.l = R.body ∧ v = .tuple #[.agg #[int R.st, .slice x.A x.l.length x.C, .slice y.A y.l.length y.C, .bool R.keep], .bool (rparseF b).isSome] ∧ H' = x.s :: y.s :: H) := by
  have hcap0 := h.cap
  have hle0 := h.le
  refine SCalls.of_walk (n := 115) Tryz.func91 rfl rfl rfl fun cs => ?_
  refine At.seq ?_
  refine At.region ?_
  refine AtL.alloc tf_zero42 (cs := #[.int .i64 0, .slice none 0 0, .slice none 0 0, .bool false]) rfl (.inl rfl) rfl ?_
  intro b1
  refine AtL.assign (.inl rfl) rfl rfl ?_
  refine AtL.done ?_
  refine At.seq ?_
  refine At.region ?_
  refine AtL.move (.inl rfl) rfl rfl ?_
  refine AtL.buildSlice (cs := [.int .u8 13, .int .u8 10, .int .u8 13, .int .u8 10]) Tryz.underlying22 tf_zero5 tf_sz5 rfl rfl (.inl rfl) rfl rfl rfl ?_
  intro b2
  refine AtL.convSl1 (l := [13, 10, 13, 10]) 0 Tryz.underlying22 Tryz.underlying5 rfl rfl rfl (by decide) (.inl rfl) rfl rfl ?_
  intro s3 o4
  refine AtL.call tf_body132 (.inl rfl) rfl rfl (index_ok (l := b) (l2 := [13, 10, 13, 10]) (Rd.skip 2 h) (o4.rd (i := 0) rfl) (by omega) (by decide) T) ?_
  rintro _ _ ⟨rfl, rfl⟩
  refine AtL.assign (.inl rfl) rfl rfl ?_
  refine AtL.done ?_
  refine At.seq ?_
  refine At.seq ?_
  refine At.region ?_
  refine AtL.move (.inl rfl) rfl rfl ?_
  refine AtL.lss (.inl rfl) rfl rfl rfl ?_
  refine AtL.done ?_
  refine At.cond rfl ?_ ?_
  · intro hc1
    have hc1 : (Lib.index b [13, 10, 13, 10] : Int) < 0 := of_decide_eq_true hc1
    refine At.seq ?_
    refine At.region ?_
    refine AtL.build (cs := [.int .i64 0, .slice none 0 0, .slice none 0 0, .bool false]) tf_lay42 (.inl rfl) rfl rfl rfl ?_
    refine AtL.store (H' := s3 :: [(b1, .cells #[.int .i64 0, .slice none 0 0, .slice none 0 0, .bool false] 42 (0, 0))] :: H) 1 0 tf_sz42 (.inl rfl) rfl rfl rfl rfl rfl rfl rfl rfl rfl ?_
    refine AtL.assign (.inl rfl) rfl rfl ?_
    refine AtL.done ?_
    refine At.nil ?_
    refine At.nil ?_
    have hp : rparseF b = none := by rw [rparseF, if_pos (by omega)]
    exact At.retMP (vs := [.agg #[.int .i64 0, .slice none 0 0, .slice none 0 0, .bool false], .bool false]) (H2 := [] :: [] :: H) [0, 1] 4 rfl rfl Tryz.func91 rfl ⟨⟨_, rfl, LoadsTo.agg (cs := [.int .i64 0, .slice none 0 0, .slice none 0 0, .bool false]) tf_agg42 rfl (cellsOwn 3 0 0 rfl rfl rfl)⟩, rfl, trivial⟩ (⟨RespV.zero, by rw [hp]; rfl, Sl.nil, Sl.nil, rfl, rfl, by rw [hp]; rfl, rfl⟩)
  · intro hc1
    have hc1 : ¬ ((Lib.index b [13, 10, 13, 10] : Int) < 0) := of_decide_eq_false hc1
    have hir := Lib.index_room b [13, 10, 13, 10] (by omega)
    obtain ⟨i, hi⟩ : ∃ i : Nat, Lib.index b [13, 10, 13, 10] = (i : Int) := ⟨_, (Int.toNat_of_nonneg (by omega)).symm⟩
    rw [hi] at hir hc1 ⊢
    have hi4 : i + 4 ≤ b.length := by simp only [List.length_cons, List.length_nil] at hir; omega
    refine At.skip ?_
    refine At.seq ?_
    refine At.region ?_
    refine AtL.move (.inl rfl) rfl rfl ?_
    refine AtL.move (.inl rfl) rfl rfl ?_
    have hleo7 := Rd.le h
    refine AtL.sliceR 2 0 i C h rfl (evBound_some rfl rfl) rfl (by intro h; cases h) (by omega) (by omega) (by omega) (by omega) Tryz.underlying22 tf_sz5 (.inl rfl) rfl rfl ?_
    clear hleo7
    intro A5 C6 (o7 : Rd tyB w0 base H A5 C6 (subl b 0 i))
    have hlo7 : (subl b 0 i).length = i - 0 := subl_len (by omega)
    refine AtL.strOf (Rd.skip 2 o7) Tryz.underlying22 Tryz.underlying5 Tryz.underlying9 (.inl rfl) rfl rfl ?_
    refine AtL.call tf_body108 (.inl rfl) rfl rfl (splitW_ok (x := subl b 0 i) [13, 10] (by decide) (by omega) T) ?_
    rintro _ _ ⟨⟨A8, C9, ls, s11, o12⟩, hls13, rfl, rfl⟩
    have hls : ls = Lib.split (subl b 0 i) [13, 10] := hls13
    refine AtL.assign (.inl rfl) rfl rfl ?_
    refine AtL.done ?_
    have hlsl := splitW_len (x := subl b 0 i) [13, 10] (by decide)
    rw [← hls, subl_len (show i ≤ b.length by omega)] at hlsl
    have hsl : ∀ s ∈ ls, s.length ≤ b.length := by rw [hls]; intro s hs; have h1 := splitK_le [13, 10] _ _ s hs; rw [subl_len (show i ≤ b.length by omega)] at h1; omega
    have hl0 := hsl (ls.getD 0 []) (getD_mem (l := ls) (i := 0) (by omega))
    refine At.seq ?_
    refine At.region ?_
    refine AtL.move (.inl rfl) rfl rfl ?_
    refine AtL.indexL 0 (o12.rd (i := 0) rfl) Tryz.underlying132 tf_sz9 (.inl rfl) rfl rfl rfl rfl (by omega) ?_
    refine AtL.load (v := str (ls.getD 0 [])) tf_flat9 (.inl rfl) rfl rfl (Rd.cell0 (o12.rd (i := 0) rfl) (getD_some [] (by omega)) rfl) ?_
    refine AtL.call tf_body133 (.inl rfl) rfl rfl (splitN_ok (x := (ls.getD 0 [])) [32] (by decide) (by omega) T) ?_
    rintro _ _ ⟨⟨A14, C15, ws, s17, o18⟩, hws19, rfl, rfl⟩
    have hws : ws = Lib.splitN (ls.getD 0 []) [32] 3 := hws19
    refine AtL.assign (.inl rfl) rfl rfl ?_
    refine AtL.done ?_
    refine At.seq ?_
    refine At.seq ?_
    refine At.region ?_
    refine AtL.move (.inl rfl) rfl rfl ?_
    refine AtL.lenL Tryz.underlying132 (.inl rfl) rfl rfl ?_
    refine AtL.lss (.inl rfl) rfl rfl rfl ?_
    refine AtL.done ?_
    refine At.cond rfl ?_ ?_
    · intro hc2
      have hc2 : (ws.length : Int) < 2 := of_decide_eq_true hc2
      have hb0 : rparseF b = if ws.length < 2 then none else linesP (atoiK (ws.getD 1 [])) (atoiV (ws.getD 1 [])) (subl b (i + 4) b.length) [] (ls.drop 1) := by rw [rparseF, hi, if_neg (by omega), Int.toNat_natCast, ← subl_to b i, ← hls, ← hws, subl_from]
      have hp : rparseF b = none := by rw [hb0, if_pos (by omega)]
      refine At.seq ?_
      refine At.region ?_
      refine AtL.build (cs := [.int .i64 0, .slice none 0 0, .slice none 0 0, .bool false]) tf_lay42 (.inl rfl) rfl rfl rfl ?_
      refine AtL.store (H' := s17 :: s11 :: s3 :: [(b1, .cells #[.int .i64 0, .slice none 0 0, .slice none 0 0, .bool false] 42 (0, 0))] :: H) 3 0 tf_sz42 (.inl rfl) rfl rfl rfl rfl rfl rfl rfl rfl rfl ?_
      refine AtL.assign (.inl rfl) rfl rfl ?_
      refine AtL.done ?_
      refine At.nil ?_
      refine At.nil ?_
      exact At.retMP (vs := [.agg #[.int .i64 0, .slice none 0 0, .slice none 0 0, .bool false], .bool false]) (H2 := [] :: [] :: H) [0, 1] 6 rfl rfl Tryz.func91 rfl ⟨⟨_, rfl, LoadsTo.agg (cs := [.int .i64 0, .slice none 0 0, .slice none 0 0, .bool false]) tf_agg42 rfl (cellsOwn 5 0 0 rfl rfl rfl)⟩, rfl, trivial⟩ (⟨RespV.zero, by rw [hp]; rfl, Sl.nil, Sl.nil, rfl, rfl, by rw [hp]; rfl, rfl⟩)
    · intro hc2
      have hc2 : ¬ ((ws.length : Int) < 2) := of_decide_eq_false hc2
      have hb0 : rparseF b = if ws.length < 2 then none else linesP (atoiK (ws.getD 1 [])) (atoiV (ws.getD 1 [])) (subl b (i + 4) b.length) [] (ls.drop 1) := by rw [rparseF, hi, if_neg (by omega), Int.toNat_natCast, ← subl_to b i, ← hls, ← hws, subl_from]
      rw [if_neg (by omega)] at hb0
      have hw1 : (ws.getD 1 []).length ≤ b.length := by have h0 : ws.getD 1 [] ∈ Lib.splitN (ls.getD 0 []) [32] 3 := (by rw [← hws]; exact getD_mem (l := ws) (i := 1) (by omega)); have h1 := splitK_le [32] _ _ _ h0; omega
      refine At.skip ?_
      refine At.seq ?_
      refine At.region ?_
      refine AtL.move (.inl rfl) rfl rfl ?_
      refine AtL.indexL 1 (o18.rd (i := 0) rfl) Tryz.underlying132 tf_sz9 (.inl rfl) rfl rfl rfl rfl (by omega) ?_
      refine AtL.load (v := str (ws.getD 1 [])) tf_flat9 (.inl rfl) rfl rfl (Rd.cell0 (o18.rd (i := 0) rfl) (getD_some [] (by omega)) rfl) ?_
      refine AtL.call tf_body94 (.inl rfl) rfl rfl (atoi_all (s := (ws.getD 1 [])) (by omega) ET) ?_
      rintro _ _ ⟨⟨te20, ea21, rfl⟩, rfl⟩
      refine AtL.move (.inl rfl) rfl rfl ?_
      refine AtL.extract (.inl rfl) rfl rfl rfl ?_
      refine AtL.extract (.inl rfl) rfl rfl rfl ?_
      refine AtL.assign (.inl rfl) rfl rfl ?_
      refine AtL.assign (.inl rfl) rfl rfl ?_
      refine AtL.done ?_
      refine At.seq ?_
      refine At.region ?_
      refine AtL.move (.inl rfl) rfl rfl ?_
      refine AtL.build (cs := [.int .i64 (atoiV (ws.getD 1 [])), .slice none 0 0, .slice none 0 0, .bool true]) tf_lay42 (.inl rfl) rfl rfl rfl ?_
      refine AtL.alloc tf_zero42 (cs := #[.int .i64 0, .slice none 0 0, .slice none 0 0, .bool false]) rfl (.inl rfl) rfl ?_
      intro b22
      refine AtL.store (H' := [(b22, .cells #[.int .i64 (atoiV (ws.getD 1 [])), .slice none 0 0, .slice none 0 0, .bool true] 42 (0, 0))] :: s17 :: s11 :: s3 :: [(b1, .cells #[.int .i64 0, .slice none 0 0, .slice none 0 0, .bool false] 42 (0, 0))] :: H) 0 0 tf_sz42 (.inl rfl) rfl rfl rfl rfl rfl rfl rfl rfl rfl ?_
      refine AtL.done ?_
      refine At.seq ?_
      refine At.seq ?_
      refine At.region ?_
      refine AtL.move (.inl rfl) rfl rfl ?_
      have hleo25 := Own.le_cap o12
      refine AtL.sliceO 1 ls.length C9 o12 (evBound_some rfl rfl) rfl rfl (by intro h; cases h) (by omega) (Nat.le_refl _) (by omega) (Nat.le_refl _) Tryz.underlying132 tf_sz9 (.inl rfl) rfl rfl ?_
      rw [show subl ls 1 ls.length = ls.drop 1 from by unfold subl; rw [List.take_of_length_le (by simp)]]
      intro A23 C24 o25
      refine AtL.lenL Tryz.underlying132 (.inl rfl) rfl rfl ?_
      refine AtL.move (.inl rfl) rfl rfl ?_
      refine AtL.done ?_
      refine At.block ?_
      refine At.nil ?_
      refine At.pick (H' := [(b22, .cells #[.int .i64 (atoiV (ws.getD 1 [])), .slice none 0 0, .slice none 0 0, .bool true] 42 (0, 0))] :: [] :: s11 :: [(b1, .cells #[.int .i64 0, .slice none 0 0, .slice none 0 0, .bool false] 42 (0, 0))] :: H) [1, 0, 3, 5] 6 rfl rfl ?_
      have hdl : (ls.drop 1).length = ls.length - 1 := by simp
      refine At.loop2 (fun (k : Nat) (x : Sl tyField 52) => [(0, .slice A b.length C), (2, .pointer (some ⟨b1, 0, none⟩)), (4, .int .i64 (i : Int)), (5, .slice A8 ls.length C9), (8, (errV te20 ea21 (atoiK (ws.getD 1 [])))), (9, .pointer (some ⟨b22, 0, none⟩)), (48, .slice A23 (ls.drop 1).length C24), (49, .int .i64 ((ls.drop 1).length : Int)), (50, .int .i64 (k : Int))]) (fun (k : Nat) (x : Sl tyField 52) => [(b22, .cells #[.int .i64 (atoiV (ws.getD 1 [])), .slice x.A x.l.length x.C, .slice none 0 0, .bool true] 42 (0, 0))] :: x.s :: s11 :: [(b1, .cells #[.int .i64 0, .slice none 0 0, .slice none 0 0, .bool false] 42 (0, 0))] :: H) (fun (k : Nat) (x : Sl tyField 52) => k ≤ (ls.drop 1).length ∧ x.l.length ≤ k ∧ rparseF b = linesP (atoiK (ws.getD 1 [])) (atoiV (ws.getD 1 [])) (subl b (i + 4) b.length) x.l ((ls.drop 1).drop k)) (fun (k : Nat) (x : Sl tyField 52) => (ls.drop 1).length - k) 0 Sl.nil (⟨Nat.zero_le _, by simp [Sl.nil], by rw [hb0]; rfl⟩) ⟨rfl, rfl, rfl, rfl, rfl, rfl, rfl, rfl, rfl, trivial⟩ rfl ?_
      rintro k x ⟨hk, hxk, hpa⟩ ihL1
      have hcap := Own.cap_le x.own
      refine At.seq ?_
      refine At.region ?_
      refine AtL.lss (.inl rfl) rfl rfl rfl ?_
      refine AtL.done ?_
      refine At.seq ?_
      refine At.cond rfl ?_ ?_
      · intro hc3
        have hc3 : (k : Int) < ((ls.drop 1).length : Int) := of_decide_eq_true hc3
        have hst := linesP_at (ok := atoiK (ws.getD 1 [])) (st := atoiV (ws.getD 1 [])) (body := subl b (i + 4) b.length) (acc := x.l) (L := (ls.drop 1)) (k := k) (by omega)
        have hlk := hsl ((ls.drop 1).getD k []) (List.mem_of_mem_drop (getD_mem (l := (ls.drop 1)) (i := k) (by omega)))
        have hcl := cutW_le [58, 32] ((ls.drop 1).getD k [])
        refine At.skip ?_
        refine At.seq ?_
        refine At.block ?_
        refine At.seq ?_
        refine At.region ?_
        refine AtL.move (.inl rfl) rfl rfl ?_
        refine AtL.indexL k (o25.rd (i := 2) rfl) Tryz.underlying132 tf_sz9 (.inl rfl) rfl rfl rfl rfl (by omega) ?_
        refine AtL.load (v := str ((ls.drop 1).getD k [])) tf_flat9 (.inl rfl) rfl rfl (Rd.cell0 (o25.rd (i := 2) rfl) (getD_some [] (by omega)) rfl) ?_
        refine AtL.assign (.inl rfl) rfl rfl ?_
        refine AtL.assign (.inl rfl) rfl rfl ?_
        refine AtL.done ?_
        refine At.seq ?_
        refine At.region ?_
        refine AtL.move (.inl rfl) rfl rfl ?_
        refine AtL.call tf_body112 (.inl rfl) rfl rfl (cutW_ok (x := ((ls.drop 1).getD k [])) [58, 32] (by omega) T) ?_
        rintro _ _ ⟨rfl, rfl⟩
        refine AtL.move (.inl rfl) rfl rfl ?_
        refine AtL.extract (.inl rfl) rfl rfl rfl ?_
        refine AtL.extract (.inl rfl) rfl rfl rfl ?_
        refine AtL.extract (.inl rfl) rfl rfl rfl ?_
        refine AtL.assign (.inl rfl) rfl rfl ?_
        refine AtL.assign (.inl rfl) rfl rfl ?_
        refine AtL.assign (.inl rfl) rfl rfl ?_
        refine AtL.done ?_
        refine At.seq ?_
        refine At.seq ?_
        refine At.region ?_
        refine AtL.move (.inl rfl) rfl rfl ?_
        refine AtL.nes (a := (Lib.cut ((ls.drop 1).getD k []) [58, 32]).1) (b := [67, 111, 110, 116, 101, 110, 116, 45, 76, 101, 110, 103, 116, 104]) (.inl rfl) rfl rfl rfl ?_
        refine AtL.done ?_
        refine At.cond rfl ?_ ?_
        · intro hc4
          have hc4 : ¬ ((Lib.cut ((ls.drop 1).getD k []) [58, 32]).1 = [67, 111, 110, 116, 101, 110, 116, 45, 76, 101, 110, 103, 116, 104]) := of_decide_eq_false (bnot_true hc4)
          have hc4q : (Lib.cut ((ls.drop 1).getD k []) [58, 32]).1 ≠ CL1 := hc4
          refine At.seq ?_
          refine At.region ?_
          refine AtL.fieldAddrB tf_fo42_1 (.inl rfl) rfl rfl rfl ?_
          refine AtL.load tf_flat33 (.inl rfl) rfl rfl (Cell.own 0 0 rfl rfl rfl) ?_
          refine AtL.move (.inl rfl) rfl rfl ?_
          refine AtL.move (.inl rfl) rfl rfl ?_
          refine AtL.build (cs := [str ((Lib.cut ((ls.drop 1).getD k []) [58, 32]).1), str ((Lib.cut ((ls.drop 1).getD k []) [58, 32]).2.1)]) tf_lay52 (.inl rfl) rfl rfl rfl ?_
          refine AtL.buildSlice (cs := [str ((Lib.cut ((ls.drop 1).getD k []) [58, 32]).1), str ((Lib.cut ((ls.drop 1).getD k []) [58, 32]).2.1)]) Tryz.underlying33 tf_zero52 tf_sz52 rfl rfl (.inl rfl) rfl rfl rfl ?_
          intro b26
          refine AtL.own1 tyField (l := ([((Lib.cut ((ls.drop 1).getD k []) [58, 32]).1, (Lib.cut ((ls.drop 1).getD k []) [58, 32]).2.1)] : List (List UInt8 × List UInt8))) rfl rfl (by first | decide | simp) ?_
          intro s27 o28
          refine AtL.append (l := x.l) (news := [((Lib.cut ((ls.drop 1).getD k []) [58, 32]).1, (Lib.cut ((ls.drop 1).getD k []) [58, 32]).2.1)]) 2 tf_el33 rfl x.own (o28.rd (i := 0) rfl) (by first | omega | (simp only [List.length_append, List.length_cons, List.length_nil]; omega) | (simp; done) | (simp; omega)) (.inl rfl) rfl rfl rfl ?_
          intro A29 C30 s31 o32
          refine AtL.fieldAddrB tf_fo42_1 (.inl rfl) rfl rfl rfl ?_
          refine AtL.store (H' := s27 :: [(b22, .cells #[.int .i64 (atoiV (ws.getD 1 [])), .slice A29 (x.l ++ ([((Lib.cut ((ls.drop 1).getD k []) [58, 32]).1, (Lib.cut ((ls.drop 1).getD k []) [58, 32]).2.1)])).length C30, .slice none 0 0, .bool true] 42 (0, 0))] :: s31 :: s11 :: [(b1, .cells #[.int .i64 0, .slice none 0 0, .slice none 0 0, .bool false] 42 (0, 0))] :: H) 1 0 tf_sz33 (.inl rfl) rfl rfl rfl rfl rfl rfl rfl rfl rfl ?_
          refine AtL.done ?_
          refine At.exit rfl ?_
          refine At.region ?_
          refine AtL.add (z := (k : Int) + 1) (.inl rfl) rfl rfl rfl (w64 (by omega) (by omega)) ?_
          refine AtL.move (.inl rfl) rfl rfl ?_
          refine AtL.done ?_
          refine At.pick (H' := [(b22, .cells #[.int .i64 (atoiV (ws.getD 1 [])), .slice A29 (x.l ++ ([((Lib.cut ((ls.drop 1).getD k []) [58, 32]).1, (Lib.cut ((ls.drop 1).getD k []) [58, 32]).2.1)])).length C30, .slice none 0 0, .bool true] 42 (0, 0))] :: s31 :: s11 :: [(b1, .cells #[.int .i64 0, .slice none 0 0, .slice none 0 0, .bool false] 42 (0, 0))] :: H) [1, 2, 3, 4] 5 rfl rfl ?_
          refine ihL1 (k + 1) (⟨A29, C30, x.l ++ ([((Lib.cut ((ls.drop 1).getD k []) [58, 32]).1, (Lib.cut ((ls.drop 1).getD k []) [58, 32]).2.1)]), s31, o32⟩) (⟨by omega, by simp; omega, by rw [hpa, hst, if_pos hc4q]⟩) (by omega) _ ?_
          exact ⟨rfl, rfl, rfl, rfl, rfl, rfl, rfl, rfl, (by first | rfl | exact slLen (by simp []) | exact intEq (by omega) | exact intEq (by simp []) | exact slLen (by simp []; omega)), trivial⟩
        · intro hc4
          have hc4 : (Lib.cut ((ls.drop 1).getD k []) [58, 32]).1 = [67, 111, 110, 116, 101, 110, 116, 45, 76, 101, 110, 103, 116, 104] := of_decide_eq_true (bnot_false hc4)
          have hc4q : ¬ (Lib.cut ((ls.drop 1).getD k []) [58, 32]).1 ≠ CL1 := fun h => h hc4
          rw [if_neg hc4q] at hst
          refine At.skip ?_
          refine At.seq ?_
          refine At.region ?_
          refine AtL.move (.inl rfl) rfl rfl ?_
          refine AtL.call tf_body94 (.inl rfl) rfl rfl (atoi_all (s := (Lib.cut ((ls.drop 1).getD k []) [58, 32]).2.1) (by omega) ET) ?_
          rintro _ _ ⟨⟨te33, ea34, rfl⟩, rfl⟩
          refine AtL.move (.inl rfl) rfl rfl ?_
          refine AtL.extract (.inl rfl) rfl rfl rfl ?_
          refine AtL.extract (.inl rfl) rfl rfl rfl ?_
          refine AtL.assign (.inl rfl) rfl rfl ?_
          refine AtL.assign (.inl rfl) rfl rfl ?_
          refine AtL.done ?_
          refine At.seq ?_
          refine At.region ?_
          refine AtL.move (.inl rfl) rfl rfl ?_
          refine AtL.add (z := (k : Int) + 2) (.inl rfl) rfl rfl rfl (w64 (by omega) (by omega)) ?_
          refine AtL.move (.inl rfl) rfl rfl ?_
          refine AtL.lenL Tryz.underlying132 (.inl rfl) rfl rfl ?_
          refine AtL.eqi (.inl rfl) rfl rfl rfl ?_
          refine AtL.fieldAddrB tf_fo42_3 (.inl rfl) rfl rfl rfl ?_
          refine AtL.store (H' := [(b22, .cells #[.int .i64 (atoiV (ws.getD 1 [])), .slice x.A x.l.length x.C, .slice none 0 0, .bool (decide (((k : Int) + 2) = (ls.length : Int)))] 42 (0, 0))] :: x.s :: s11 :: [(b1, .cells #[.int .i64 0, .slice none 0 0, .slice none 0 0, .bool false] 42 (0, 0))] :: H) 0 0 tf_sz4 (.inl rfl) rfl rfl rfl rfl rfl rfl rfl rfl rfl ?_
          refine AtL.done ?_
          refine At.seq ?_
          refine At.region ?_
          refine AtL.move (.inl rfl) rfl rfl ?_
          refine AtL.move (.inl rfl) rfl rfl ?_
          refine AtL.add (z := (i : Int) + 4) (.inl rfl) rfl rfl rfl (w64 (by omega) (by omega)) ?_
          have hleo37 := Rd.le h
          refine AtL.sliceR 4 (i + 4) b.length C h (evBound_some rfl rfl) rfl rfl (by intro h; cases h) (by omega) (by omega) (by omega) (by omega) Tryz.underlying22 tf_sz5 (.inl rfl) rfl rfl ?_
          clear hleo37
          intro A35 C36 (o37 : Rd tyB w0 base H A35 C36 (subl b (i + 4) b.length))
          have hlo37 : (subl b (i + 4) b.length).length = b.length - (i + 4) := subl_len (by omega)
          refine AtL.assign (.inl rfl) rfl rfl ?_
          refine AtL.done ?_
          refine At.seq ?_
          refine At.seq ?_
          refine At.region ?_
          refine AtL.move (.inl rfl) rfl rfl ?_
          refine AtL.not (.inl rfl) rfl rfl ?_
          refine AtL.move (.inl rfl) rfl rfl ?_
          refine AtL.join 3 (E' := [(91, .bool (decide ((((Lib.cut ((ls.drop 1).getD k []) [58, 32]).2.2) = false) ∨ ((atoiK (ws.getD 1 [])) = false)))), (2, .pointer (some ⟨b1, 0, none⟩)), (9, .pointer (some ⟨b22, 0, none⟩)), (15, .int .i64 (atoiV ((Lib.cut ((ls.drop 1).getD k []) [58, 32]).2.1))), (16, (errV te33 ea34 (atoiK ((Lib.cut ((ls.drop 1).getD k []) [58, 32]).2.1)))), (17, .slice A35 (subl b (i + 4) b.length).length C36)]) (H' := [(b22, .cells #[.int .i64 (atoiV (ws.getD 1 [])), .slice x.A x.l.length x.C, .slice none 0 0, .bool (decide (((k : Int) + 2) = (ls.length : Int)))] 42 (0, 0))] :: x.s :: s11 :: [(b1, .cells #[.int .i64 0, .slice none 0 0, .slice none 0 0, .bool false] 42 (0, 0))] :: H) (fun J => ?_) ?_
          · refine AtL.split (t := 88) rfl ?_ ?_
            · intro hs88
              have hs88 : ((Lib.cut ((ls.drop 1).getD k []) [58, 32]).2.2) = false := bnot_true hs88
              refine AtL.skipped rfl rfl rfl rfl rfl rfl ?_
              refine AtL.skipped rfl rfl rfl rfl rfl rfl ?_
              refine AtL.pickT (.inl rfl) rfl rfl rfl ?_
              exact J _ (by exact ⟨(boolIs (by clear J; first | (simp [hs88]; done) | (simp_all; done) | grind)), rfl, rfl, rfl, rfl, rfl, trivial⟩)
            · intro hs88
              have hs88 : ((Lib.cut ((ls.drop 1).getD k []) [58, 32]).2.2) = true := bnot_false hs88
              refine AtL.move (.inr ⟨_, _, _, rfl, rfl, rfl, rfl⟩) rfl rfl ?_
              refine AtL.neErr Tryz.underlying125 (.inr ⟨_, _, _, rfl, rfl, rfl, rfl⟩) rfl rfl ?_
              refine AtL.pickF (.inl rfl) rfl rfl rfl ?_
              exact J _ (by exact ⟨(boolIs (by clear J; first | (simp [hs88]; done) | (simp_all; done) | grind)), rfl, rfl, rfl, rfl, rfl, trivial⟩)
          · skip
            refine AtL.move (.inl rfl) rfl rfl ?_
            refine AtL.join 3 (E' := [(95, .bool (decide (((((Lib.cut ((ls.drop 1).getD k []) [58, 32]).2.2) = false) ∨ ((atoiK (ws.getD 1 [])) = false)) ∨ ((atoiK ((Lib.cut ((ls.drop 1).getD k []) [58, 32]).2.1)) = false)))), (2, .pointer (some ⟨b1, 0, none⟩)), (9, .pointer (some ⟨b22, 0, none⟩)), (15, .int .i64 (atoiV ((Lib.cut ((ls.drop 1).getD k []) [58, 32]).2.1))), (17, .slice A35 (subl b (i + 4) b.length).length C36)]) (H' := [(b22, .cells #[.int .i64 (atoiV (ws.getD 1 [])), .slice x.A x.l.length x.C, .slice none 0 0, .bool (decide (((k : Int) + 2) = (ls.length : Int)))] 42 (0, 0))] :: x.s :: s11 :: [(b1, .cells #[.int .i64 0, .slice none 0 0, .slice none 0 0, .bool false] 42 (0, 0))] :: H) (fun J => ?_) ?_
            · refine AtL.split (t := 92) rfl ?_ ?_
              · intro hs92
                have hs92 : (((Lib.cut ((ls.drop 1).getD k []) [58, 32]).2.2) = false) ∨ ((atoiK (ws.getD 1 [])) = false) := of_decide_eq_true hs92
                refine AtL.skipped rfl rfl rfl rfl rfl rfl ?_
                refine AtL.skipped rfl rfl rfl rfl rfl rfl ?_
                refine AtL.pickT (.inl rfl) rfl rfl rfl ?_
                exact J _ (by exact ⟨(boolIs (by clear J; first | (simp [hs92]; done) | (simp_all; done) | grind)), rfl, rfl, rfl, rfl, trivial⟩)
              · intro hs92
                have hs92 : ¬ ((((Lib.cut ((ls.drop 1).getD k []) [58, 32]).2.2) = false) ∨ ((atoiK (ws.getD 1 [])) = false)) := of_decide_eq_false hs92
                refine AtL.move (.inr ⟨_, _, _, rfl, rfl, rfl, rfl⟩) rfl rfl ?_
                refine AtL.neErr Tryz.underlying125 (.inr ⟨_, _, _, rfl, rfl, rfl, rfl⟩) rfl rfl ?_
                refine AtL.pickF (.inl rfl) rfl rfl rfl ?_
                exact J _ (by exact ⟨(boolIs (by clear J; first | (simp [hs92]; done) | (simp_all; done) | grind)), rfl, rfl, rfl, rfl, trivial⟩)
            · skip
              refine AtL.move (.inl rfl) rfl rfl ?_
              refine AtL.join 3 (E' := [(99, .bool (decide ((((((Lib.cut ((ls.drop 1).getD k []) [58, 32]).2.2) = false) ∨ ((atoiK (ws.getD 1 [])) = false)) ∨ ((atoiK ((Lib.cut ((ls.drop 1).getD k []) [58, 32]).2.1)) = false)) ∨ ((atoiV ((Lib.cut ((ls.drop 1).getD k []) [58, 32]).2.1) : Int) < 0)))), (2, .pointer (some ⟨b1, 0, none⟩)), (9, .pointer (some ⟨b22, 0, none⟩)), (15, .int .i64 (atoiV ((Lib.cut ((ls.drop 1).getD k []) [58, 32]).2.1))), (17, .slice A35 (subl b (i + 4) b.length).length C36)]) (H' := [(b22, .cells #[.int .i64 (atoiV (ws.getD 1 [])), .slice x.A x.l.length x.C, .slice none 0 0, .bool (decide (((k : Int) + 2) = (ls.length : Int)))] 42 (0, 0))] :: x.s :: s11 :: [(b1, .cells #[.int .i64 0, .slice none 0 0, .slice none 0 0, .bool false] 42 (0, 0))] :: H) (fun J => ?_) ?_
              · refine AtL.split (t := 96) rfl ?_ ?_
                · intro hs96
                  have hs96 : ((((Lib.cut ((ls.drop 1).getD k []) [58, 32]).2.2) = false) ∨ ((atoiK (ws.getD 1 [])) = false)) ∨ ((atoiK ((Lib.cut ((ls.drop 1).getD k []) [58, 32]).2.1)) = false) := of_decide_eq_true hs96
                  refine AtL.skipped rfl rfl rfl rfl rfl rfl ?_
                  refine AtL.skipped rfl rfl rfl rfl rfl rfl ?_
                  refine AtL.pickT (.inl rfl) rfl rfl rfl ?_
                  exact J _ (by exact ⟨(boolIs (by clear J; first | (simp [hs96]; done) | (simp_all; done) | grind)), rfl, rfl, rfl, rfl, trivial⟩)
                · intro hs96
                  have hs96 : ¬ (((((Lib.cut ((ls.drop 1).getD k []) [58, 32]).2.2) = false) ∨ ((atoiK (ws.getD 1 [])) = false)) ∨ ((atoiK ((Lib.cut ((ls.drop 1).getD k []) [58, 32]).2.1)) = false)) := of_decide_eq_false hs96
                  refine AtL.move (.inr ⟨_, _, _, rfl, rfl, rfl, rfl⟩) rfl rfl ?_
                  refine AtL.lss (.inr ⟨_, _, _, rfl, rfl, rfl, rfl⟩) rfl rfl rfl ?_
                  refine AtL.pickF (.inl rfl) rfl rfl rfl ?_
                  exact J _ (by exact ⟨(boolIs (by clear J; first | (simp [hs96]; done) | (simp_all; done) | grind)), rfl, rfl, rfl, rfl, trivial⟩)
              · skip
                refine AtL.move (.inl rfl) rfl rfl ?_
                refine AtL.join 5 (E' := [(105, .bool (decide (((((((Lib.cut ((ls.drop 1).getD k []) [58, 32]).2.2) = false) ∨ ((atoiK (ws.getD 1 [])) = false)) ∨ ((atoiK ((Lib.cut ((ls.drop 1).getD k []) [58, 32]).2.1)) = false)) ∨ ((atoiV ((Lib.cut ((ls.drop 1).getD k []) [58, 32]).2.1) : Int) < 0)) ∨ (((subl b (i + 4) b.length).length : Int) < (atoiV ((Lib.cut ((ls.drop 1).getD k []) [58, 32]).2.1)))))), (2, .pointer (some ⟨b1, 0, none⟩)), (9, .pointer (some ⟨b22, 0, none⟩)), (15, .int .i64 (atoiV ((Lib.cut ((ls.drop 1).getD k []) [58, 32]).2.1))), (17, .slice A35 (subl b (i + 4) b.length).length C36)]) (H' := [(b22, .cells #[.int .i64 (atoiV (ws.getD 1 [])), .slice x.A x.l.length x.C, .slice none 0 0, .bool (decide (((k : Int) + 2) = (ls.length : Int)))] 42 (0, 0))] :: x.s :: s11 :: [(b1, .cells #[.int .i64 0, .slice none 0 0, .slice none 0 0, .bool false] 42 (0, 0))] :: H) (fun J => ?_) ?_
                · refine AtL.split (t := 100) rfl ?_ ?_
                  · intro hs100
                    have hs100 : (((((Lib.cut ((ls.drop 1).getD k []) [58, 32]).2.2) = false) ∨ ((atoiK (ws.getD 1 [])) = false)) ∨ ((atoiK ((Lib.cut ((ls.drop 1).getD k []) [58, 32]).2.1)) = false)) ∨ ((atoiV ((Lib.cut ((ls.drop 1).getD k []) [58, 32]).2.1) : Int) < 0) := of_decide_eq_true hs100
                    refine AtL.skipped rfl rfl rfl rfl rfl rfl ?_
                    refine AtL.skipped rfl rfl rfl rfl rfl rfl ?_
                    refine AtL.skipped rfl rfl rfl rfl rfl rfl ?_
                    refine AtL.skipped rfl rfl rfl rfl rfl rfl ?_
                    refine AtL.pickT (.inl rfl) rfl rfl rfl ?_
                    exact J _ (by exact ⟨(boolIs (by clear J; first | (simp [hs100]; done) | (simp_all; done) | grind)), rfl, rfl, rfl, rfl, trivial⟩)
                  · intro hs100
                    have hs100 : ¬ ((((((Lib.cut ((ls.drop 1).getD k []) [58, 32]).2.2) = false) ∨ ((atoiK (ws.getD 1 [])) = false)) ∨ ((atoiK ((Lib.cut ((ls.drop 1).getD k []) [58, 32]).2.1)) = false)) ∨ ((atoiV ((Lib.cut ((ls.drop 1).getD k []) [58, 32]).2.1) : Int) < 0)) := of_decide_eq_false hs100
                    refine AtL.move (.inr ⟨_, _, _, rfl, rfl, rfl, rfl⟩) rfl rfl ?_
                    refine AtL.move (.inr ⟨_, _, _, rfl, rfl, rfl, rfl⟩) rfl rfl ?_
                    refine AtL.lenL Tryz.underlying22 (.inr ⟨_, _, _, rfl, rfl, rfl, rfl⟩) rfl rfl ?_
                    refine AtL.gtr (.inr ⟨_, _, _, rfl, rfl, rfl, rfl⟩) rfl rfl rfl ?_
                    refine AtL.pickF (.inl rfl) rfl rfl rfl ?_
                    exact J _ (by exact ⟨(boolIs (by clear J; first | (simp [hs100]; done) | (simp_all; done) | grind)), rfl, rfl, rfl, rfl, trivial⟩)
                · skip
                  refine AtL.done ?_
                  refine At.cond rfl ?_ ?_
                  · intro hc5
                    have hc5 : ((((((Lib.cut ((ls.drop 1).getD k []) [58, 32]).2.2) = false) ∨ ((atoiK (ws.getD 1 [])) = false)) ∨ ((atoiK ((Lib.cut ((ls.drop 1).getD k []) [58, 32]).2.1)) = false)) ∨ ((atoiV ((Lib.cut ((ls.drop 1).getD k []) [58, 32]).2.1) : Int) < 0)) ∨ (((subl b (i + 4) b.length).length : Int) < (atoiV ((Lib.cut ((ls.drop 1).getD k []) [58, 32]).2.1))) := of_decide_eq_true hc5
                    have hp : rparseF b = none := by rw [hpa, hst, if_pos hc5]
                    refine At.seq ?_
                    refine At.region ?_
                    refine AtL.build (cs := [.int .i64 0, .slice none 0 0, .slice none 0 0, .bool false]) tf_lay42 (.inl rfl) rfl rfl rfl ?_
                    refine AtL.store (H' := [(b22, .cells #[.int .i64 (atoiV (ws.getD 1 [])), .slice x.A x.l.length x.C, .slice none 0 0, .bool (decide (((k : Int) + 2) = (ls.length : Int)))] 42 (0, 0))] :: x.s :: s11 :: [(b1, .cells #[.int .i64 0, .slice none 0 0, .slice none 0 0, .bool false] 42 (0, 0))] :: H) 3 0 tf_sz42 (.inl rfl) rfl rfl rfl rfl rfl rfl rfl rfl rfl ?_
                    refine AtL.assign (.inl rfl) rfl rfl ?_
                    refine AtL.done ?_
                    refine At.nil ?_
                    refine At.nil ?_
                    exact At.retMP (vs := [.agg #[.int .i64 0, .slice none 0 0, .slice none 0 0, .bool false], .bool false]) (H2 := [] :: [] :: H) [0, 1] 6 rfl rfl Tryz.func91 rfl ⟨⟨_, rfl, LoadsTo.agg (cs := [.int .i64 0, .slice none 0 0, .slice none 0 0, .bool false]) tf_agg42 rfl (cellsOwn 5 0 0 rfl rfl rfl)⟩, rfl, trivial⟩ (⟨RespV.zero, by rw [hp]; rfl, Sl.nil, Sl.nil, rfl, rfl, by rw [hp]; rfl, rfl⟩)
                  · intro hc5
                    have hc5 : ¬ (((((((Lib.cut ((ls.drop 1).getD k []) [58, 32]).2.2) = false) ∨ ((atoiK (ws.getD 1 [])) = false)) ∨ ((atoiK ((Lib.cut ((ls.drop 1).getD k []) [58, 32]).2.1)) = false)) ∨ ((atoiV ((Lib.cut ((ls.drop 1).getD k []) [58, 32]).2.1) : Int) < 0)) ∨ (((subl b (i + 4) b.length).length : Int) < (atoiV ((Lib.cut ((ls.drop 1).getD k []) [58, 32]).2.1)))) := of_decide_eq_false hc5
                    rw [if_neg hc5] at hst
                    simp only [not_or] at hc5
                    have hsub : (subl b (i + 4) b.length).length = b.length - (i + 4) := by rw [subl_len (Nat.le_refl _)]
                    refine At.skip ?_
                    refine At.seq ?_
                    refine At.region ?_
                    refine AtL.move (.inl rfl) rfl rfl ?_
                    refine AtL.move (.inl rfl) rfl rfl ?_
                    have hleo40 := Rd.le o37
                    refine AtL.sliceR 4 0 ((atoiV (Lib.cut ((ls.drop 1).getD k []) [58, 32]).2.1).toNat) C36 o37 rfl (evBound_some rfl (by omega)) rfl (by intro h; cases h) (by omega) (by omega) (by omega) (by omega) Tryz.underlying22 tf_sz5 (.inl rfl) rfl rfl ?_
                    clear hleo40
                    intro A38 C39 (o40 : Rd tyB w0 base H A38 C39 (subl (subl b (i + 4) b.length) 0 ((atoiV (Lib.cut ((ls.drop 1).getD k []) [58, 32]).2.1).toNat)))
                    have hlo40 : (subl (subl b (i + 4) b.length) 0 ((atoiV (Lib.cut ((ls.drop 1).getD k []) [58, 32]).2.1).toNat)).length = ((atoiV (Lib.cut ((ls.drop 1).getD k []) [58, 32]).2.1).toNat) - 0 := subl_len (by omega)
                    refine AtL.call tf_body134 (.inl rfl) rfl rfl (bclone_ok (l := subl (subl b (i + 4) b.length) 0 ((atoiV (Lib.cut ((ls.drop 1).getD k []) [58, 32]).2.1).toNat)) (Rd.skip 4 o40) (by omega)) ?_
                    rintro _ _ ⟨⟨A41, C42, l43, s44, o45⟩, hx46, rfl, rfl⟩
                    obtain rfl : subl (subl b (i + 4) b.length) 0 ((atoiV (Lib.cut ((ls.drop 1).getD k []) [58, 32]).2.1).toNat) = l43 := hx46.symm
                    refine AtL.fieldAddrB tf_fo42_2 (.inl rfl) rfl rfl rfl ?_
                    refine AtL.store (H' := s44 :: [(b22, .cells #[.int .i64 (atoiV (ws.getD 1 [])), .slice x.A x.l.length x.C, .slice A41 (subl (subl b (i + 4) b.length) 0 ((atoiV (Lib.cut ((ls.drop 1).getD k []) [58, 32]).2.1).toNat)).length C42, .bool (decide (((k : Int) + 2) = (ls.length : Int)))] 42 (0, 0))] :: x.s :: s11 :: [(b1, .cells #[.int .i64 0, .slice none 0 0, .slice none 0 0, .bool false] 42 (0, 0))] :: H) 1 0 tf_sz22 (.inl rfl) rfl rfl rfl rfl rfl rfl rfl rfl rfl ?_
                    refine AtL.done ?_
                    refine At.seq ?_
                    refine At.region ?_
                    refine AtL.loadN (cs := [.int .i64 (atoiV (ws.getD 1 [])), .slice x.A x.l.length x.C, .slice A41 (subl (subl b (i + 4) b.length) 0 ((atoiV (Lib.cut ((ls.drop 1).getD k []) [58, 32]).2.1).toNat)).length C42, .bool (decide (((k : Int) + 2) = (ls.length : Int)))]) tf_agg42 (.inl rfl) rfl rfl rfl (cellsOwn 1 0 0 rfl rfl rfl) ?_
                    refine AtL.store (H' := s44 :: [(b22, .cells #[.int .i64 (atoiV (ws.getD 1 [])), .slice x.A x.l.length x.C, .slice A41 (subl (subl b (i + 4) b.length) 0 ((atoiV (Lib.cut ((ls.drop 1).getD k []) [58, 32]).2.1).toNat)).length C42, .bool (decide (((k : Int) + 2) = (ls.length : Int)))] 42 (0, 0))] :: x.s :: s11 :: [(b1, .cells #[.int .i64 (atoiV (ws.getD 1 [])), .slice x.A x.l.length x.C, .slice A41 (subl (subl b (i + 4) b.length) 0 ((atoiV (Lib.cut ((ls.drop 1).getD k []) [58, 32]).2.1).toNat)).length C42, .bool (decide (((k : Int) + 2) = (ls.length : Int)))] 42 (0, 0))] :: H) 4 0 tf_sz42 (.inl rfl) rfl rfl rfl rfl rfl rfl rfl rfl rfl ?_
                    refine AtL.assign (.inl rfl) rfl rfl ?_
                    refine AtL.done ?_
                    have hkp : decide ((ls.drop 1).drop (k + 1) = []) = decide ((k : Int) + 2 = (ls.length : Int)) := decide_eq_decide.2 (by rw [List.drop_eq_nil_iff]; constructor <;> (intro h; omega))
                    have hp : rparseF b = some ⟨atoiV (ws.getD 1 []), x.l, (subl b (i + 4) b.length).take (atoiV (Lib.cut ((ls.drop 1).getD k []) [58, 32]).2.1).toNat, decide ((k : Int) + 2 = (ls.length : Int))⟩ := by rw [hpa, hst, hkp]
                    exact At.retMP (vs := [.agg #[.int .i64 (atoiV (ws.getD 1 [])), .slice x.A x.l.length x.C, .slice A41 (subl (subl b (i + 4) b.length) 0 ((atoiV (Lib.cut ((ls.drop 1).getD k []) [58, 32]).2.1).toNat)).length C42, .bool (decide (((k : Int) + 2) = (ls.length : Int)))], .bool true]) (H2 := x.s :: s44 :: H) [2, 0] 5 rfl rfl Tryz.func91 rfl ⟨⟨_, rfl, LoadsTo.agg (cs := [.int .i64 (atoiV (ws.getD 1 [])), .slice x.A x.l.length x.C, .slice A41 (subl (subl b (i + 4) b.length) 0 ((atoiV (Lib.cut ((ls.drop 1).getD k []) [58, 32]).2.1).toNat)).length C42, .bool (decide (((k : Int) + 2) = (ls.length : Int)))]) tf_agg42 rfl (cellsOwn 4 0 0 rfl rfl rfl)⟩, rfl, trivial⟩ (⟨⟨atoiV (ws.getD 1 []), x.l, (subl b (i + 4) b.length).take (atoiV (Lib.cut ((ls.drop 1).getD k []) [58, 32]).2.1).toNat, decide ((k : Int) + 2 = (ls.length : Int))⟩, by rw [hp]; rfl, x, ⟨A41, C42, subl (subl b (i + 4) b.length) 0 ((atoiV (Lib.cut ((ls.drop 1).getD k []) [58, 32]).2.1).toNat), s44, o45⟩, rfl, by show _ = List.take _ _; rw [← subl_to], by rw [hp]; rfl, rfl⟩)
      · intro hc3
        have hc3 : ¬ ((k : Int) < ((ls.drop 1).length : Int)) := of_decide_eq_false hc3
        have hp : rparseF b = none := by rw [hpa, List.drop_eq_nil_of_le (by omega), linesP]
        refine At.exit rfl ?_
        refine At.seq ?_
        refine At.region ?_
        refine AtL.build (cs := [.int .i64 0, .slice none 0 0, .slice none 0 0, .bool false]) tf_lay42 (.inl rfl) rfl rfl rfl ?_
        refine AtL.store (H' := [(b22, .cells #[.int .i64 (atoiV (ws.getD 1 [])), .slice x.A x.l.length x.C, .slice none 0 0, .bool true] 42 (0, 0))] :: x.s :: s11 :: [(b1, .cells #[.int .i64 0, .slice none 0 0, .slice none 0 0, .bool false] 42 (0, 0))] :: H) 3 0 tf_sz42 (.inl rfl) rfl rfl rfl rfl rfl rfl rfl rfl rfl ?_
        refine AtL.assign (.inl rfl) rfl rfl ?_
        refine AtL.done ?_
        refine At.nil ?_
        refine At.nil ?_
        exact At.retMP (vs := [.agg #[.int .i64 0, .slice none 0 0, .slice none 0 0, .bool false], .bool false]) (H2 := [] :: [] :: H) [0, 1] 6 rfl rfl Tryz.func91 rfl ⟨⟨_, rfl, LoadsTo.agg (cs := [.int .i64 0, .slice none 0 0, .slice none 0 0, .bool false]) tf_agg42 rfl (cellsOwn 5 0 0 rfl rfl rfl)⟩, rfl, trivial⟩ (⟨RespV.zero, by rw [hp]; rfl, Sl.nil, Sl.nil, rfl, rfl, by rw [hp]; rfl, rfl⟩)

theorem read_bad {b : List UInt8} {p : Nat} {R : RespV} (hp : p ≤ b.length) (hR : R = (rparseF (subl b p b.length)).getD RespV.zero) (h : ((rparseF (subl b p b.length)).isSome = false ∨ ¬ respE R = 0) ∨ ¬ respL R <+: subl b p b.length) : readF b (p : Int) = (.zero, 0, 4) := by
  rw [subl_from] at hR h
  refine read_no (by omega) ?_
  rw [Int.toNat_natCast]
  rintro r ho ⟨t, ht⟩
  have hb := rparse_back ho t
  rw [ht] at hb
  rw [hb] at hR h
  subst hR
  have he : respE R = 0 := by rw [respE, if_pos ho]
  have hl : respL R = respB R := by rw [respL, if_pos ho]
  rcases h with (h | h) | h
  · cases h
  · exact h he
  · exact h (by rw [hl]; exact ⟨t, ht⟩)
theorem read_good {b : List UInt8} {p : Nat} {R : RespV} (hp : p ≤ b.length) (h : ¬ (((rparseF (subl b p b.length)).isSome = false ∨ ¬ respE R = 0) ∨ ¬ respL R <+: subl b p b.length)) : readF b (p : Int) = (R, (p : Int) + ((respL R).length : Int), 0) ∧ p + (respL R).length ≤ b.length := by
  simp only [not_or, Classical.not_not] at h
  obtain ⟨⟨_, h2⟩, h3⟩ := h
  have ho := respE_ok h2
  have hl : respL R = respB R := by rw [respL, if_pos ho]
  rw [hl, subl_from] at h3
  have hle := h3.length_le
  rw [List.length_drop] at hle
  rw [hl]
  exact ⟨read_yes (by omega) ho (by rw [Int.toNat_natCast]; exact h3), by omega⟩

set_option maxHeartbeats 400000 in
theorem read15_ok {w0 : World} {base : Nat} {H : List Seg} {A : Option Addr} {C : Nat} {b : List UInt8} (a : Int) (h : Rd tyB w0 base H A C b) (hbl : b.length ≤ 4294967280) (T : Tabs w0 base) (ET : ErrTab w0 base) (T10 : Tab10 w0 base) :
    SCalls Tryz.prog 39 [.slice A b.length C, .int .i64 a] w0 base (H) (fun v H' => ∃ R : RespV, R = (readF b a).1 ∧ ∃ (x : Sl tyField 52) (y : Sl tyB 5), x.l = R.fs ∧ y.l = R.body ∧ v = .tuple #[.agg #[int R.st, .slice x.A x.l.length x.C, .slice y.A y.l.length y.C, .bool R.keep], int (readF b a).2.1, int (readF b a).2.2] ∧ H' = x.s :: y.s :: H) := by
  have hcap0 := h.cap
  have hle0 := h.le
  refine SCalls.of_walk (n := 52) Tryz.func39 rfl rfl rfl fun cs => ?_
  refine At.seq ?_
  refine At.region ?_
  refine AtL.alloc tf_zero42 (cs := #[.int .i64 0, .slice none 0 0, .slice none 0 0, .bool false]) rfl (.inl rfl) rfl ?_
  intro b1
  refine AtL.assign (.inl rfl) rfl rfl ?_
  refine AtL.assign (.inl rfl) rfl rfl ?_
  refine AtL.done ?_
  refine At.seq ?_
  refine At.seq ?_
  refine At.region ?_
  refine AtL.move (.inl rfl) rfl rfl ?_
  refine AtL.lss (.inl rfl) rfl rfl rfl ?_
  refine AtL.move (.inl rfl) rfl rfl ?_
  refine AtL.join 5 (E' := [(18, .bool (decide (((a : Int) < 0) ∨ ((b.length : Int) < a)))), (0, .slice A b.length C), (1, .int .i64 a), (4, .pointer (some ⟨b1, 0, none⟩))]) (H' := [(b1, .cells #[.int .i64 0, .slice none 0 0, .slice none 0 0, .bool false] 42 (0, 0))] :: H) (fun J => ?_) ?_
  · refine AtL.split (t := 13) rfl ?_ ?_
    · intro hs13
      have hs13 : (a : Int) < 0 := of_decide_eq_true hs13
      refine AtL.skipped rfl rfl rfl rfl rfl rfl ?_
      refine AtL.skipped rfl rfl rfl rfl rfl rfl ?_
      refine AtL.skipped rfl rfl rfl rfl rfl rfl ?_
      refine AtL.skipped rfl rfl rfl rfl rfl rfl ?_
      refine AtL.pickT (.inl rfl) rfl rfl rfl ?_
      exact J _ (by exact ⟨(boolIs (by clear J; first | (simp [hs13]; done) | (simp_all; done) | grind)), rfl, rfl, rfl, trivial⟩)
    · intro hs13
      have hs13 : ¬ ((a : Int) < 0) := of_decide_eq_false hs13
      refine AtL.move (.inr ⟨_, _, _, rfl, rfl, rfl, rfl⟩) rfl rfl ?_
      refine AtL.move (.inr ⟨_, _, _, rfl, rfl, rfl, rfl⟩) rfl rfl ?_
      refine AtL.lenL Tryz.underlying22 (.inr ⟨_, _, _, rfl, rfl, rfl, rfl⟩) rfl rfl ?_
      refine AtL.gtr (.inr ⟨_, _, _, rfl, rfl, rfl, rfl⟩) rfl rfl rfl ?_
      refine AtL.pickF (.inl rfl) rfl rfl rfl ?_
      exact J _ (by exact ⟨(boolIs (by clear J; first | (simp [hs13]; done) | (simp_all; done) | grind)), rfl, rfl, rfl, trivial⟩)
  · skip
    refine AtL.done ?_
    refine At.cond rfl ?_ ?_
    · intro hc1
      have hc1 : ((a : Int) < 0) ∨ ((b.length : Int) < a) := of_decide_eq_true hc1
      refine At.seq ?_
      refine At.region ?_
      refine AtL.build (cs := [.int .i64 0, .slice none 0 0, .slice none 0 0, .bool false]) tf_lay42 (.inl rfl) rfl rfl rfl ?_
      refine AtL.store (H' := [(b1, .cells #[.int .i64 0, .slice none 0 0, .slice none 0 0, .bool false] 42 (0, 0))] :: H) 0 0 tf_sz42 (.inl rfl) rfl rfl rfl rfl rfl rfl rfl rfl rfl ?_
      refine AtL.assign (.inl rfl) rfl rfl ?_
      refine AtL.assign (.inl rfl) rfl rfl ?_
      refine AtL.done ?_
      refine At.nil ?_
      refine At.nil ?_
      exact At.retMP (vs := [.agg #[.int .i64 0, .slice none 0 0, .slice none 0 0, .bool false], .int .i64 0, .int .i64 5]) (H2 := [] :: [] :: H) [0, 1] 3 rfl rfl Tryz.func39 rfl ⟨⟨_, rfl, LoadsTo.agg (cs := [.int .i64 0, .slice none 0 0, .slice none 0 0, .bool false]) tf_agg42 rfl (cellsOwn 2 0 0 rfl rfl rfl)⟩, rfl, rfl, trivial⟩ (⟨RespV.zero, by rw [read_range hc1], Sl.nil, Sl.nil, rfl, rfl, by rw [read_range hc1]; rfl, rfl⟩)
    · intro hc1
      have hc1 : ¬ (((a : Int) < 0) ∨ ((b.length : Int) < a)) := of_decide_eq_false hc1
      obtain ⟨p, rfl⟩ : ∃ p : Nat, a = (p : Int) := ⟨a.toNat, by omega⟩
      refine At.skip ?_
      refine At.seq ?_
      refine At.region ?_
      refine AtL.move (.inl rfl) rfl rfl ?_
      refine AtL.move (.inl rfl) rfl rfl ?_
      have hleo4 := Rd.le h
      refine AtL.sliceR 1 p b.length C h (evBound_some rfl rfl) rfl rfl (by intro h; cases h) (by omega) (by omega) (by omega) (by omega) Tryz.underlying22 tf_sz5 (.inl rfl) rfl rfl ?_
      clear hleo4
      intro A2 C3 (o4 : Rd tyB w0 base H A2 C3 (subl b p b.length))
      have hlo4 : (subl b p b.length).length = b.length - p := subl_len (by omega)
      refine AtL.call tf_body91 (.inl rfl) rfl rfl (rparse15_ok (b := subl b p b.length) (Rd.skip 1 o4) (by rw [subl_len (Nat.le_refl _)]; omega) T ET) ?_
      rintro _ _ ⟨R15, hR16, ⟨A5, C6, l7, s8, o9⟩, ⟨A10, C11, l12, s13, o14⟩, hx17, hx18, rfl, rfl⟩
      obtain rfl : R15.fs = l7 := hx17.symm
      obtain rfl : R15.body = l12 := hx18.symm
      have hRb := rp_le hR16
      have hRe := hR16
      refine AtL.move (.inl rfl) rfl rfl ?_
      refine AtL.extract (.inl rfl) rfl rfl rfl ?_
      refine AtL.extract (.inl rfl) rfl rfl rfl ?_
      refine AtL.alloc tf_zero42 (cs := #[.int .i64 0, .slice none 0 0, .slice none 0 0, .bool false]) rfl (.inl rfl) rfl ?_
      intro b19
      refine AtL.store (H' := [(b19, .cells #[.int .i64 R15.st, .slice A5 R15.fs.length C6, .slice A10 R15.body.length C11, .bool R15.keep] 42 (0, 0))] :: s8 :: s13 :: [(b1, .cells #[.int .i64 0, .slice none 0 0, .slice none 0 0, .bool false] 42 (0, 0))] :: H) 0 0 tf_sz42 (.inl rfl) rfl rfl rfl rfl rfl rfl rfl rfl rfl ?_
      refine AtL.assign (.inl rfl) rfl rfl ?_
      refine AtL.done ?_
      refine At.seq ?_
      refine At.region ?_
      refine AtL.loadN (cs := [.int .i64 R15.st, .slice A5 R15.fs.length C6, .slice A10 R15.body.length C11, .bool R15.keep]) tf_agg42 (.inl rfl) rfl rfl rfl (cellsOwn 0 0 0 rfl rfl rfl) ?_
      refine AtL.call tf_body42 (.inl rfl) rfl rfl (rwrite_okP (st := R15.st) (fs := R15.fs) (b := R15.body) (kp := R15.keep) (o9.rd (i := 1) rfl) (o14.rd (i := 2) rfl) (fun f hf => by have h1 := hRb.1 f hf; rw [subl_len (Nat.le_refl _)] at h1; omega) T10) ?_
      rintro _ _ ⟨⟨A20, C21, l22, s23, o24⟩, hx25, rfl, rfl⟩
      obtain rfl : respL ⟨R15.st, R15.fs, R15.body, R15.keep⟩ = l22 := hx25.symm
      refine AtL.move (.inl rfl) rfl rfl ?_
      refine AtL.extract (.inl rfl) rfl rfl rfl ?_
      refine AtL.extract (.inl rfl) rfl rfl rfl ?_
      refine AtL.assign (.inl rfl) rfl rfl ?_
      refine AtL.assign (.inl rfl) rfl rfl ?_
      refine AtL.done ?_
      refine At.seq ?_
      refine At.seq ?_
      refine At.region ?_
      refine AtL.move (.inl rfl) rfl rfl ?_
      refine AtL.not (.inl rfl) rfl rfl ?_
      refine AtL.move (.inl rfl) rfl rfl ?_
      refine AtL.join 3 (E' := [(37, .bool (decide ((((rparseF (subl b p b.length)).isSome) = false) ∨ (¬ ((respE ⟨R15.st, R15.fs, R15.body, R15.keep⟩ : Int) = 0))))), (0, .slice A b.length C), (1, .int .i64 (p : Int)), (4, .pointer (some ⟨b1, 0, none⟩)), (7, .pointer (some ⟨b19, 0, none⟩)), (9, .slice A20 (respL ⟨R15.st, R15.fs, R15.body, R15.keep⟩).length C21)]) (H' := s23 :: [(b19, .cells #[.int .i64 R15.st, .slice A5 R15.fs.length C6, .slice A10 R15.body.length C11, .bool R15.keep] 42 (0, 0))] :: s8 :: s13 :: [(b1, .cells #[.int .i64 0, .slice none 0 0, .slice none 0 0, .bool false] 42 (0, 0))] :: H) (fun J => ?_) ?_
      · refine AtL.split (t := 34) rfl ?_ ?_
        · intro hs34
          have hs34 : ((rparseF (subl b p b.length)).isSome) = false := bnot_true hs34
          refine AtL.skipped rfl rfl rfl rfl rfl rfl ?_
          refine AtL.skipped rfl rfl rfl rfl rfl rfl ?_
          refine AtL.pickT (.inl rfl) rfl rfl rfl ?_
          exact J _ (by exact ⟨(boolIs (by clear J; first | (simp [hs34]; done) | (simp_all; done) | grind)), rfl, rfl, rfl, rfl, rfl, trivial⟩)
        · intro hs34
          have hs34 : ((rparseF (subl b p b.length)).isSome) = true := bnot_false hs34
          refine AtL.move (.inr ⟨_, _, _, rfl, rfl, rfl, rfl⟩) rfl rfl ?_
          refine AtL.nei (.inr ⟨_, _, _, rfl, rfl, rfl, rfl⟩) rfl rfl rfl ?_
          refine AtL.pickF (.inl rfl) rfl rfl rfl ?_
          exact J _ (by exact ⟨(boolIs (by clear J; first | (simp [hs34]; done) | (simp_all; done) | grind)), rfl, rfl, rfl, rfl, rfl, trivial⟩)
      · skip
        refine AtL.move (.inl rfl) rfl rfl ?_
        refine AtL.join 7 (E' := [(45, .bool (decide (((((rparseF (subl b p b.length)).isSome) = false) ∨ (¬ ((respE ⟨R15.st, R15.fs, R15.body, R15.keep⟩ : Int) = 0))) ∨ (¬ ((respL ⟨R15.st, R15.fs, R15.body, R15.keep⟩) <+: (subl b p b.length)))))), (1, .int .i64 (p : Int)), (4, .pointer (some ⟨b1, 0, none⟩)), (7, .pointer (some ⟨b19, 0, none⟩)), (9, .slice A20 (respL ⟨R15.st, R15.fs, R15.body, R15.keep⟩).length C21)]) (H' := s23 :: [(b19, .cells #[.int .i64 R15.st, .slice A5 R15.fs.length C6, .slice A10 R15.body.length C11, .bool R15.keep] 42 (0, 0))] :: s8 :: s13 :: [(b1, .cells #[.int .i64 0, .slice none 0 0, .slice none 0 0, .bool false] 42 (0, 0))] :: H) (fun J => ?_) ?_
        · refine AtL.split (t := 38) rfl ?_ ?_
          · intro hs38
            have hs38 : (((rparseF (subl b p b.length)).isSome) = false) ∨ (¬ ((respE ⟨R15.st, R15.fs, R15.body, R15.keep⟩ : Int) = 0)) := of_decide_eq_true hs38
            refine AtL.skipped rfl rfl rfl rfl rfl rfl ?_
            refine AtL.skipped rfl rfl rfl rfl rfl rfl ?_
            refine AtL.skipped rfl rfl rfl rfl rfl rfl ?_
            refine AtL.skipped rfl rfl rfl rfl rfl rfl ?_
            refine AtL.skipped rfl rfl rfl rfl rfl rfl ?_
            refine AtL.skipped rfl rfl rfl rfl rfl rfl ?_
            refine AtL.pickT (.inl rfl) rfl rfl rfl ?_
            exact J _ (by exact ⟨(boolIs (by clear J; first | (simp [hs38]; done) | (simp_all; done) | grind)), rfl, rfl, rfl, rfl, trivial⟩)
          · intro hs38
            have hs38 : ¬ ((((rparseF (subl b p b.length)).isSome) = false) ∨ (¬ ((respE ⟨R15.st, R15.fs, R15.body, R15.keep⟩ : Int) = 0))) := of_decide_eq_false hs38
            refine AtL.move (.inr ⟨_, _, _, rfl, rfl, rfl, rfl⟩) rfl rfl ?_
            refine AtL.move (.inr ⟨_, _, _, rfl, rfl, rfl, rfl⟩) rfl rfl ?_
            have hleo28 := Rd.le h
            refine AtL.sliceR 5 p b.length C h (evBound_some rfl rfl) rfl rfl (by intro h; cases h) (by omega) (by omega) (by omega) (by omega) Tryz.underlying22 tf_sz5 (.inr ⟨_, _, _, rfl, rfl, rfl, rfl⟩) rfl rfl ?_
            clear hleo28
            intro A26 C27 (o28 : Rd tyB w0 base H A26 C27 (subl b p b.length))
            have hlo28 : (subl b p b.length).length = b.length - p := subl_len (by omega)
            refine AtL.move (.inr ⟨_, _, _, rfl, rfl, rfl, rfl⟩) rfl rfl ?_
            refine AtL.call tf_body92 (.inr ⟨_, _, _, rfl, rfl, rfl, rfl⟩) rfl rfl (bhasprefix_ok (l := subl b p b.length) (m := respL ⟨R15.st, R15.fs, R15.body, R15.keep⟩) (Rd.skip 5 o28) (o24.rd (i := 0) rfl)) ?_
            rintro _ _ ⟨rfl, rfl⟩
            refine AtL.not (.inr ⟨_, _, _, rfl, rfl, rfl, rfl⟩) rfl rfl ?_
            refine AtL.pickF (.inl rfl) rfl rfl rfl ?_
            exact J _ (by exact ⟨(boolIs (by clear J; first | (simp [hs38]; done) | (simp_all; done) | grind)), rfl, rfl, rfl, rfl, trivial⟩)
        · skip
          refine AtL.done ?_
          refine At.cond rfl ?_ ?_
          · intro hc2
            have hc2 : ((((rparseF (subl b p b.length)).isSome) = false) ∨ (¬ ((respE ⟨R15.st, R15.fs, R15.body, R15.keep⟩ : Int) = 0))) ∨ (¬ ((respL ⟨R15.st, R15.fs, R15.body, R15.keep⟩) <+: (subl b p b.length))) := of_decide_eq_true hc2
            refine At.seq ?_
            refine At.region ?_
            refine AtL.build (cs := [.int .i64 0, .slice none 0 0, .slice none 0 0, .bool false]) tf_lay42 (.inl rfl) rfl rfl rfl ?_
            refine AtL.store (H' := s23 :: [(b19, .cells #[.int .i64 R15.st, .slice A5 R15.fs.length C6, .slice A10 R15.body.length C11, .bool R15.keep] 42 (0, 0))] :: s8 :: s13 :: [(b1, .cells #[.int .i64 0, .slice none 0 0, .slice none 0 0, .bool false] 42 (0, 0))] :: H) 4 0 tf_sz42 (.inl rfl) rfl rfl rfl rfl rfl rfl rfl rfl rfl ?_
            refine AtL.assign (.inl rfl) rfl rfl ?_
            refine AtL.assign (.inl rfl) rfl rfl ?_
            refine AtL.done ?_
            refine At.nil ?_
            refine At.nil ?_
            have hrd := read_bad (b := b) (p := p) (by omega) hRe hc2
            exact At.retMP (vs := [.agg #[.int .i64 0, .slice none 0 0, .slice none 0 0, .bool false], .int .i64 0, .int .i64 4]) (H2 := [] :: [] :: H) [0, 1] 7 rfl rfl Tryz.func39 rfl ⟨⟨_, rfl, LoadsTo.agg (cs := [.int .i64 0, .slice none 0 0, .slice none 0 0, .bool false]) tf_agg42 rfl (cellsOwn 6 0 0 rfl rfl rfl)⟩, rfl, rfl, trivial⟩ (⟨RespV.zero, by rw [hrd], Sl.nil, Sl.nil, rfl, rfl, by rw [hrd]; rfl, rfl⟩)
          · intro hc2
            have hc2 : ¬ (((((rparseF (subl b p b.length)).isSome) = false) ∨ (¬ ((respE ⟨R15.st, R15.fs, R15.body, R15.keep⟩ : Int) = 0))) ∨ (¬ ((respL ⟨R15.st, R15.fs, R15.body, R15.keep⟩) <+: (subl b p b.length)))) := of_decide_eq_false hc2
            obtain ⟨hrd, hpl⟩ := read_good (b := b) (p := p) (by omega) hc2
            refine At.skip ?_
            refine At.seq ?_
            refine At.region ?_
            refine AtL.loadN (cs := [.int .i64 R15.st, .slice A5 R15.fs.length C6, .slice A10 R15.body.length C11, .bool R15.keep]) tf_agg42 (.inl rfl) rfl rfl rfl (cellsOwn 1 0 0 rfl rfl rfl) ?_
            refine AtL.move (.inl rfl) rfl rfl ?_
            refine AtL.move (.inl rfl) rfl rfl ?_
            refine AtL.lenL Tryz.underlying22 (.inl rfl) rfl rfl ?_
            refine AtL.add (z := (p : Int) + ((respL ⟨R15.st, R15.fs, R15.body, R15.keep⟩).length : Int)) (.inl rfl) rfl rfl rfl (w64 (by omega) (by omega)) ?_
            refine AtL.store (H' := s23 :: [(b19, .cells #[.int .i64 R15.st, .slice A5 R15.fs.length C6, .slice A10 R15.body.length C11, .bool R15.keep] 42 (0, 0))] :: s8 :: s13 :: [(b1, .cells #[.int .i64 R15.st, .slice A5 R15.fs.length C6, .slice A10 R15.body.length C11, .bool R15.keep] 42 (0, 0))] :: H) 4 0 tf_sz42 (.inl rfl) rfl rfl rfl rfl rfl rfl rfl rfl rfl ?_
            refine AtL.assign (.inl rfl) rfl rfl ?_
            refine AtL.assign (.inl rfl) rfl rfl ?_
            refine AtL.done ?_
            exact At.retMP (vs := [.agg #[.int .i64 R15.st, .slice A5 R15.fs.length C6, .slice A10 R15.body.length C11, .bool R15.keep], .int .i64 ((p : Int) + ((respL ⟨R15.st, R15.fs, R15.body, R15.keep⟩).length : Int)), .int .i64 0]) (H2 := s8 :: s13 :: H) [2, 3] 5 rfl rfl Tryz.func39 rfl ⟨⟨_, rfl, LoadsTo.agg (cs := [.int .i64 R15.st, .slice A5 R15.fs.length C6, .slice A10 R15.body.length C11, .bool R15.keep]) tf_agg42 rfl (cellsOwn 4 0 0 rfl rfl rfl)⟩, rfl, rfl, trivial⟩ (⟨R15, by rw [hrd], ⟨A5, C6, R15.fs, s8, o9⟩, ⟨A10, C11, R15.body, s13, o14⟩, rfl, rfl, by rw [hrd]; rfl, rfl⟩)

end Go.Proofs.YtlfkoimkojbghaaGreatDoor
