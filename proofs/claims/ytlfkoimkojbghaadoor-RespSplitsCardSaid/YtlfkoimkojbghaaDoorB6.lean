/- RespSplits: the walk. -/
import Derived.Test.YtlfkoimkojbghaaDoorB4
namespace Go.Proofs.YtlfkoimkojbghaaDoor
set_option linter.unusedVariables false
set_option linter.unusedSimpArgs false
set_option maxRecDepth 100000

/-- How many ends of lines there are. -/
def cntF : List UInt8 → Nat
  | [] => 0
  | a :: r => (if a = 13 ∧ r.head? = some 10 then 1 else 0) + cntF r
theorem cnt_line {l : List UInt8} (r : List UInt8) (h : l.any crlf = false) : cntF (l ++ 13 :: 10 :: r) = 1 + cntF r := by
  induction l with
  | nil =>
    have : ¬ ((10 : UInt8) = 13 ∧ r.head? = some 10) := by simp
    rw [List.nil_append, cntF, cntF, if_neg this]; simp
  | cons a l ih =>
    have ha : ¬ a = 13 := by simp [crlf] at h; exact h.1.1
    rw [List.cons_append, cntF, if_neg (fun h2 => ha h2.1), ih (by simp at h; simpa using h.2)]; omega
theorem cnt_snoc (l : List UInt8) (a b : UInt8) : cntF (l ++ [a] ++ [b]) = cntF (l ++ [a]) + if a = 13 ∧ b = 10 then 1 else 0 := by
  induction l with
  | nil => simp [cntF]
  | cons c l ih =>
    have h1 : (l ++ [a] ++ [b]).head? = (l ++ [a]).head? := by cases l <;> rfl
    simp only [List.cons_append, cntF] at ih ⊢
    rw [h1, ih]; omega
theorem take_succ2 {l : List UInt8} {k : Nat} (h : k < l.length) : l.take (k + 1) = l.take k ++ [l.getD k 0] := by
  rw [List.take_succ_eq_append_getElem h]; simp [List.getD, h]
theorem cnt_one (l : List UInt8) : 0 = cntF (l.take 1) := by
  cases l with
  | nil => rfl
  | cons a l => simp [cntF]
theorem cnt_step {l : List UInt8} {k n : Nat} (h : k + 1 < l.length) (hn : n = cntF (l.take (k + 1))) : cntF (l.take (k + 1 + 1)) = n + if l.getD k 0 = 13 ∧ l.getD (k + 1) 0 = 10 then 1 else 0 := by
  rw [take_succ2 h, take_succ2 (show k < l.length by omega), cnt_snoc, ← take_succ2 (show k < l.length by omega), ← hn]
theorem u8i {c d : UInt8} : (c.toNat : Int) = (d.toNat : Int) ↔ c = d := by
  constructor
  · intro h; exact UInt8.toNat_inj.1 (by omega)
  · rintro rfl; rfl
theorem cnt_step_yes {l : List UInt8} {k n hd : Nat} (h1 : k + 1 < hd) (h2 : hd ≤ l.length) (hc : ((l.getD k 0).toNat : Int) = 13 ∧ ((l.getD (k + 1) 0).toNat : Int) = 10) (hn : n = cntF (l.take (k + 1))) : n + 1 = cntF (l.take (k + 1 + 1)) := by
  rw [cnt_step (by omega) hn, if_pos ⟨u8i.1 hc.1, u8i.1 hc.2⟩]
theorem cnt_step_no {l : List UInt8} {k n hd : Nat} (h1 : k + 1 < hd) (h2 : hd ≤ l.length) (hc : ¬ (((l.getD k 0).toNat : Int) = 13 ∧ ((l.getD (k + 1) 0).toNat : Int) = 10)) (hn : n = cntF (l.take (k + 1))) : n = cntF (l.take (k + 1 + 1)) := by
  rw [cnt_step (by omega) hn, if_neg (fun h => hc ⟨u8i.2 h.1, u8i.2 h.2⟩)]; rfl
theorem decF_cl (n : Nat) : (decF n).any crlf = false := by
  induction n using Nat.strongRecOn with
  | _ n ih =>
    have key : ∀ k : Fin 10, crlf (UInt8.ofNat (48 + k.val)) = false := by decide
    rw [decF]
    split
    · rename_i h; simpa using key ⟨n, h⟩
    · rw [List.any_append, ih (n / 10) (by omega)]
      simpa using key ⟨n % 10, by omega⟩
theorem reason_cl (s : Int) : (reasonF s).any crlf = false := by
  have key : ∀ l : List (Int × List UInt8), (∀ p ∈ l, p.2.any crlf = false) → ((atK s l).getD []).any crlf = false := by
    intro l
    induction l with
    | nil => intro _; rfl
    | cons p r ih =>
      intro h
      rw [atK]
      split
      · exact h p (by simp)
      · exact ih fun q hq => h q (by simp [hq])
  exact key REASONS (by decide)
theorem cnt_fields (fs : List Fld) (r : List UInt8) (h : fs.all fldR = true) : cntF (fieldsR fs ++ r) = fs.length + cntF r := by
  induction fs with
  | nil => simp [fieldsR]
  | cons f fs ih =>
    simp only [List.all_cons, Bool.and_eq_true] at h
    obtain ⟨hf, hr⟩ := h
    simp only [fldR, fieldOk, Bool.and_eq_true] at hf
    obtain ⟨⟨hw, hv⟩, _⟩ := hf
    have e : fieldsR (f :: fs) ++ r = (f.1 ++ [58, 32] ++ f.2) ++ 13 :: 10 :: (fieldsR fs ++ r) := by simp [fieldsR]
    rw [e, cnt_line _ (by rw [List.any_append, List.any_append, (word_cl hw).2.1, (value_cl hv).1]; decide), ih hr]
    simp only [List.length_cons]; omega
theorem okR_fields {r : RespV} (h : respE r = 0) : r.fs.all fldR = true := by
  have ho := respE_ok h
  simp only [okR, Bool.and_eq_true, decide_eq_true_eq] at ho
  exact ho.1.2
theorem cnt_head {r : RespV} (h : respE r = 0) : cntF (headR r) = 3 + r.fs.length + (if r.keep then 0 else 1) := by
  have e : headR r = (H11 ++ decF r.st.toNat ++ [32] ++ reasonF r.st) ++ 13 :: 10 :: (fieldsR r.fs ++ ((CLN ++ decF r.body.length) ++ 13 :: 10 :: endB r.keep)) := by simp [headR, stB, lenB]
  have h0 : ([] : List UInt8).any crlf = false := rfl
  have he : cntF (endB r.keep) = 1 + (if r.keep then 0 else 1) := by cases r.keep <;> decide
  rw [e, cnt_line _ (by rw [List.any_append, List.any_append, List.any_append, decF_cl, reason_cl]; decide), cnt_fields _ _ (okR_fields h), cnt_line _ (by rw [List.any_append, decF_cl]; decide), he]
  omega
theorem headR_len {r : RespV} (h : respE r = 0) : 20 ≤ (headR r).length ∧ (headR r).length ≤ 6000 := by
  obtain ⟨_, h1, h2, h3, h4, h5⟩ := resp_good h
  have d1 := decF_len r.st.toNat (by omega)
  have d2 := decF_len r.body.length (by omega)
  have d3 := reasonF_len r.st
  have d4 := stB_len r.st d1
  have d5 := lenB_len r.body.length d2
  have d6 : (fieldsR r.fs).length ≤ 5000 := by rw [fieldsR_len]; omega
  have d7 : 2 ≤ (endB r.keep).length ∧ (endB r.keep).length ≤ 30 := by cases r.keep <;> decide
  have d8 : 9 ≤ (stB r.st).length := by simp only [stB, H11, List.length_append, List.length_cons, List.length_nil]; omega
  have d9 : 16 ≤ (lenB r.body.length).length := by simp only [lenB, CLN, List.length_append, List.length_cons, List.length_nil]; omega
  simp only [headR, List.length_append]
  omega
theorem cntF_le (l : List UInt8) : cntF l ≤ l.length := by
  induction l with
  | nil => exact Nat.le_refl 0
  | cons a r ih => rw [cntF, List.length_cons]; split <;> omega

set_option maxHeartbeats 1000000 in
theorem respsplits_ok {w0 : World} {base : Nat} {H : List Seg} {st : Int} {A A2 : Option Addr} {C C2 : Nat} {fs : List (List UInt8 × List UInt8)} {b : List UInt8} {kp : Bool} (h : Rd tyField w0 base H A C fs) (h2 : Rd tyB w0 base H A2 C2 b) (hb : ∀ f ∈ fs, f.1.length ≤ 140737488355000 ∧ f.2.length ≤ 140737488355000) (T10 : Tab10 w0 base) :
    SCalls Tryd.prog 7 [.agg #[.int .i64 st, .slice A fs.length C, .slice A2 b.length C2, .bool kp]] w0 base (H) (fun v H' => v = .bool true ∧ H' = H) := by
  have hle0 := h.le
  have hcap0 := h.cap
  have hle2 := h2.le
  have hcap2 := h2.cap
  refine SCalls.of_walk (n := 84) Tryd.func7 rfl rfl rfl fun cs => ?_
  refine At.seq ?_
  refine At.region ?_
  refine AtL.box (cs := #[.int .i64 st, .slice A fs.length C, .slice A2 b.length C2, .bool kp]) rfl (.inl rfl) rfl rfl ?_
  intro b1
  refine AtL.assign (.inl rfl) rfl rfl ?_
  refine AtL.done ?_
  refine At.seq ?_
  refine At.region ?_
  refine AtL.call tf_body29 (.inl rfl) rfl rfl (awake15_ok T10) ?_
  rintro _ _ ⟨rfl, rfl⟩
  refine AtL.assign (.inl rfl) rfl rfl ?_
  refine AtL.done ?_
  refine At.seq ?_
  refine At.seq ?_
  refine At.region ?_
  refine AtL.loadN (cs := [.int .i64 st, .slice A fs.length C, .slice A2 b.length C2, .bool kp]) tf_agg54 (.inl rfl) rfl rfl rfl (cellsOwn 0 0 0 rfl rfl rfl) ?_
  refine AtL.call tf_body28 (.inl rfl) rfl rfl (long15_ok (st := st) (fs := fs) (b := b) (kp := kp) (Rd.skip 1 h) (Rd.skip 1 h2) hb) ?_
  rintro _ _ ⟨bl2, rfl, hx3, rfl⟩
  have hlong := hx3
  refine AtL.done ?_
  refine At.cond rfl ?_ ?_
  · intro hc1
    have hc1 : bl2 = true := hc1
    refine At.seq ?_
    refine At.region ?_
    refine AtL.move (.inl rfl) rfl rfl ?_
    refine AtL.assign (.inl rfl) rfl rfl ?_
    refine AtL.done ?_
    refine At.pick (H' := H) [] 1 rfl rfl ?_
    exact At.ret Tryd.func7 rfl rfl (⟨rfl, rfl⟩)
  · intro hc1
    have hc1 : bl2 = false := hc1
    obtain ⟨hf40, hb6, hbl⟩ := hlong (by simpa using hc1)
    have hfl : fs.length ≤ 1000 := by omega
    refine At.skip ?_
    refine At.seq ?_
    refine At.region ?_
    refine AtL.loadN (cs := [.int .i64 st, .slice A fs.length C, .slice A2 b.length C2, .bool kp]) tf_agg54 (.inl rfl) rfl rfl rfl (cellsOwn 0 0 0 rfl rfl rfl) ?_
    refine AtL.call tf_body31 (.inl rfl) rfl rfl (rwrite_okP (st := st) (fs := fs) (b := b) (kp := kp) (Rd.skip 1 h) (Rd.skip 1 h2) hfl hb T10) ?_
    rintro _ _ ⟨⟨A4, C5, l6, s7, o8⟩, hx9, rfl, rfl⟩
    obtain rfl : respL ⟨st, fs, b, kp⟩ = l6 := hx9.symm
    refine AtL.move (.inl rfl) rfl rfl ?_
    refine AtL.extract (.inl rfl) rfl rfl rfl ?_
    refine AtL.extract (.inl rfl) rfl rfl rfl ?_
    refine AtL.assign (.inl rfl) rfl rfl ?_
    refine AtL.assign (.inl rfl) rfl rfl ?_
    refine AtL.done ?_
    refine At.seq ?_
    refine At.seq ?_
    refine At.region ?_
    refine AtL.move (.inl rfl) rfl rfl ?_
    refine AtL.nei (.inl rfl) rfl rfl rfl ?_
    refine AtL.done ?_
    refine At.cond rfl ?_ ?_
    · intro hc2
      have hc2 : ¬ ((respE ⟨st, fs, b, kp⟩ : Int) = 0) := of_decide_eq_false (bnot_true hc2)
      obtain ⟨he2, hl0⟩ := resp_bad (r := ⟨st, fs, b, kp⟩) hc2
      refine At.seq ?_
      refine At.region ?_
      refine AtL.move (.inl rfl) rfl rfl ?_
      refine AtL.move (.inl rfl) rfl rfl ?_
      refine AtL.loadN (cs := [.int .i64 st, .slice A fs.length C, .slice A2 b.length C2, .bool kp]) tf_agg54 (.inr ⟨_, _, _, rfl, rfl, rfl, rfl⟩) rfl rfl rfl (cellsOwn 1 0 0 rfl rfl rfl) ?_
      refine AtL.call tf_body33 (.inr ⟨_, _, _, rfl, rfl, rfl, rfl⟩) rfl rfl (rchk_ok0 (st := st) (fs := fs) (b := b) (kp := kp) (Rd.skip 2 h) (Rd.skip 2 h2) hfl hb) ?_
      rintro _ _ ⟨rfl, rfl⟩
      refine AtL.move (.inr ⟨_, _, _, rfl, rfl, rfl, rfl⟩) rfl rfl ?_
      refine AtL.eqi (.inr ⟨_, _, _, rfl, rfl, rfl, rfl⟩) rfl rfl rfl ?_
      refine AtL.pickT (.inl rfl) rfl rfl rfl ?_
      refine AtL.move (.inl rfl) rfl rfl ?_
      refine AtL.join 4 (E' := [(32, .bool (decide (((respL ⟨st, fs, b, kp⟩).length : Int) = 0)))]) (H' := s7 :: [(b1, .cells #[.int .i64 st, .slice A fs.length C, .slice A2 b.length C2, .bool kp] 54 (0, 0))] :: H) (fun J => ?_) ?_
      · refine AtL.split (t := 28) rfl ?_ ?_
        · intro hs28
          have hs28 : (respE ⟨st, fs, b, kp⟩ : Int) = (respE ⟨st, fs, b, kp⟩) := of_decide_eq_true hs28
          refine AtL.move (.inr ⟨_, _, _, rfl, rfl, rfl, rfl⟩) rfl rfl ?_
          refine AtL.lenL Tryd.underlying25 (.inr ⟨_, _, _, rfl, rfl, rfl, rfl⟩) rfl rfl ?_
          refine AtL.eqi (.inr ⟨_, _, _, rfl, rfl, rfl, rfl⟩) rfl rfl rfl ?_
          refine AtL.pickT (.inl rfl) rfl rfl rfl ?_
          exact J _ (by exact ⟨(boolIs (by clear J; first | (simp [hs28]; done) | (simp_all; done) | grind)), trivial⟩)
        · intro hs28
          exact Bool.noConfusion (hs28.symm.trans (decide_eq_true rfl))
      · skip
        refine AtL.assign (.inl rfl) rfl rfl ?_
        refine AtL.done ?_
        refine At.pick (H' := H) [] 2 rfl rfl ?_
        exact At.ret Tryd.func7 rfl rfl (⟨congrArg Value.bool (by simp [he2, hl0]), rfl⟩)
    · intro hc2
      have hc2 : (respE ⟨st, fs, b, kp⟩ : Int) = 0 := of_decide_eq_true (bnot_false hc2)
      have he0 : respE ⟨st, fs, b, kp⟩ = 0 := by simpa using hc2
      obtain ⟨hgL, hg1, hg2, hg3, hg4, hg5⟩ := resp_good he0
      have hhl := headR_len he0
      have hBl : (respL ⟨st, fs, b, kp⟩).length = (headR ⟨st, fs, b, kp⟩).length + b.length := by rw [hgL, respB, List.length_append]
      have hcn := cnt_head he0
      obtain ⟨hd, hhd⟩ : ∃ hd : Nat, hd = (headR ⟨st, fs, b, kp⟩).length := ⟨_, rfl⟩
      rw [← hhd] at hhl hBl
      refine At.skip ?_
      refine At.seq ?_
      refine At.region ?_
      refine AtL.assign (.inl rfl) rfl rfl ?_
      refine AtL.done ?_
      refine At.seq ?_
      refine At.region ?_
      refine AtL.move (.inl rfl) rfl rfl ?_
      refine AtL.lenL Tryd.underlying25 (.inl rfl) rfl rfl ?_
      refine AtL.fieldAddrB tf_fo54_2 (.inl rfl) rfl rfl rfl ?_
      refine AtL.load tf_flat25 (.inl rfl) rfl rfl (Cell.own 1 0 rfl rfl rfl) ?_
      refine AtL.lenL Tryd.underlying25 (.inl rfl) rfl rfl ?_
      refine AtL.sub (z := (hd : Int)) (.inl rfl) rfl rfl rfl (by rw [show ((respL ⟨st, fs, b, kp⟩).length : Int) - (b.length : Int) = (hd : Int) by omega]; exact w64 (by omega) (by omega)) ?_
      refine AtL.assign (.inl rfl) rfl rfl ?_
      refine AtL.done ?_
      refine At.seq ?_
      refine At.seq ?_
      refine At.region ?_
      refine AtL.move (.inl rfl) rfl rfl ?_
      refine AtL.lss (.inl rfl) rfl rfl rfl ?_
      refine AtL.done ?_
      refine At.cond rfl ?_ ?_
      · intro hc3
        have hc3 : (hd : Int) < 0 := of_decide_eq_true hc3
        exfalso; omega
      · intro hc3
        have hc3 : ¬ ((hd : Int) < 0) := of_decide_eq_false hc3
        refine At.skip ?_
        refine At.seq ?_
        refine At.seq ?_
        refine At.region ?_
        refine AtL.assign (.inl rfl) rfl rfl ?_
        refine AtL.done ?_
        refine At.block ?_
        refine At.loop2 (fun (k : Nat) (n : Nat) => [(1, .pointer (some ⟨b1, 0, none⟩)), (3, .bool true), (4, .slice A4 (respL ⟨st, fs, b, kp⟩).length C5), (6, .int .i64 (n : Int)), (7, .int .i64 (hd : Int)), (8, .int .i64 ((k + 1 : Nat) : Int))]) (fun (k : Nat) (n : Nat) => s7 :: [(b1, .cells #[.int .i64 st, .slice A fs.length C, .slice A2 b.length C2, .bool kp] 54 (0, 0))] :: H) (fun (k : Nat) (n : Nat) => k ≤ hd ∧ k + 1 ≤ hd ∧ n = cntF ((respL ⟨st, fs, b, kp⟩).take (k + 1))) (fun (k : Nat) (n : Nat) => hd - k) 0 0 (⟨Nat.zero_le _, by omega, cnt_one _⟩) ⟨rfl, rfl, rfl, rfl, rfl, rfl, trivial⟩ rfl ?_
        rintro k n ⟨hk, hk1, hn⟩ ihL1
        have hnl := cntF_le ((respL ⟨st, fs, b, kp⟩).take (k + 1))
        rw [← hn, List.length_take] at hnl
        refine At.seq ?_
        refine At.seq ?_
        refine At.region ?_
        refine AtL.move (.inl rfl) rfl rfl ?_
        refine AtL.move (.inl rfl) rfl rfl ?_
        refine AtL.lss (.inl rfl) rfl rfl rfl ?_
        refine AtL.done ?_
        refine At.cond rfl ?_ ?_
        · intro hc4
          have hc4 : ((k + 1 : Nat) : Int) < (hd : Int) := of_decide_eq_true hc4
          refine At.skip ?_
          refine At.seq ?_
          refine At.block ?_
          refine At.seq ?_
          refine At.region ?_
          refine AtL.move (.inl rfl) rfl rfl ?_
          refine AtL.move (.inl rfl) rfl rfl ?_
          refine AtL.sub (z := (k : Int)) (.inl rfl) rfl rfl rfl (by rw [show ((k + 1 : Nat) : Int) - 1 = (k : Int) by omega]; exact w64 (by omega) (by omega)) ?_
          refine AtL.indexL k (o8.rd (i := 0) rfl) Tryd.underlying25 tf_sz5 (.inl rfl) rfl rfl rfl rfl (by omega) ?_
          refine AtL.load (v := .int .u8 (((respL ⟨st, fs, b, kp⟩).getD k 0).toNat : Int)) tf_flat5 (.inl rfl) rfl rfl (Rd.cell0 (o8.rd (i := 0) rfl) (getD_some 0 (by omega)) rfl) ?_
          refine AtL.eqi (.inl rfl) rfl rfl rfl ?_
          refine AtL.move (.inl rfl) rfl rfl ?_
          refine AtL.join 6 (E' := [(58, .bool (decide (((((respL ⟨st, fs, b, kp⟩).getD k 0).toNat : Int) = 13) ∧ ((((respL ⟨st, fs, b, kp⟩).getD (k + 1 : Nat) 0).toNat : Int) = 10)))), (1, .pointer (some ⟨b1, 0, none⟩)), (3, .bool true), (4, .slice A4 (respL ⟨st, fs, b, kp⟩).length C5), (6, .int .i64 (n : Int)), (7, .int .i64 (hd : Int)), (8, .int .i64 ((k + 1 : Nat) : Int))]) (H' := s7 :: [(b1, .cells #[.int .i64 st, .slice A fs.length C, .slice A2 b.length C2, .bool kp] 54 (0, 0))] :: H) (fun J => ?_) ?_
          · refine AtL.split (t := 52) rfl ?_ ?_
            · intro hs52
              have hs52 : (((respL ⟨st, fs, b, kp⟩).getD k 0).toNat : Int) = 13 := of_decide_eq_true hs52
              refine AtL.move (.inr ⟨_, _, _, rfl, rfl, rfl, rfl⟩) rfl rfl ?_
              refine AtL.move (.inr ⟨_, _, _, rfl, rfl, rfl, rfl⟩) rfl rfl ?_
              refine AtL.indexL (k + 1 : Nat) (o8.rd (i := 0) rfl) Tryd.underlying25 tf_sz5 (.inr ⟨_, _, _, rfl, rfl, rfl, rfl⟩) rfl rfl rfl rfl (by omega) ?_
              refine AtL.load (v := .int .u8 (((respL ⟨st, fs, b, kp⟩).getD (k + 1 : Nat) 0).toNat : Int)) tf_flat5 (.inr ⟨_, _, _, rfl, rfl, rfl, rfl⟩) rfl rfl (Rd.cell0 (o8.rd (i := 0) rfl) (getD_some 0 (by omega)) rfl) ?_
              refine AtL.eqi (.inr ⟨_, _, _, rfl, rfl, rfl, rfl⟩) rfl rfl rfl ?_
              refine AtL.pickT (.inl rfl) rfl rfl rfl ?_
              exact J _ (by exact ⟨(boolIs (by clear J; first | (simp [hs52]; done) | (simp_all; done) | grind)), rfl, rfl, rfl, rfl, rfl, rfl, trivial⟩)
            · intro hs52
              have hs52 : ¬ ((((respL ⟨st, fs, b, kp⟩).getD k 0).toNat : Int) = 13) := of_decide_eq_false hs52
              refine AtL.skipped rfl rfl rfl rfl rfl rfl ?_
              refine AtL.skipped rfl rfl rfl rfl rfl rfl ?_
              refine AtL.skipped rfl rfl rfl rfl rfl rfl ?_
              refine AtL.skipped rfl rfl rfl rfl rfl rfl ?_
              refine AtL.skipped rfl rfl rfl rfl rfl rfl ?_
              refine AtL.pickF (.inl rfl) rfl rfl rfl ?_
              exact J _ (by exact ⟨(boolIs (by clear J; first | (simp [hs52]; done) | (simp_all; done) | grind)), rfl, rfl, rfl, rfl, rfl, rfl, trivial⟩)
          · skip
            refine AtL.done ?_
            refine At.cond rfl ?_ ?_
            · intro hc5
              have hc5 : ((((respL ⟨st, fs, b, kp⟩).getD k 0).toNat : Int) = 13) ∧ ((((respL ⟨st, fs, b, kp⟩).getD (k + 1 : Nat) 0).toNat : Int) = 10) := of_decide_eq_true hc5
              refine At.region ?_
              refine AtL.move (.inl rfl) rfl rfl ?_
              refine AtL.add (z := (n : Int) + 1) (.inl rfl) rfl rfl rfl (w64 (by omega) (by omega)) ?_
              refine AtL.assign (.inl rfl) rfl rfl ?_
              refine AtL.done ?_
              refine At.inBlock ?_
              refine At.region ?_
              refine AtL.move (.inl rfl) rfl rfl ?_
              refine AtL.add (z := ((k + 1 : Nat) : Int) + 1) (.inl rfl) rfl rfl rfl (w64 (by omega) (by omega)) ?_
              refine AtL.assign (.inl rfl) rfl rfl ?_
              refine AtL.done ?_
              refine ihL1 (k + 1) (n + 1) (⟨by omega, by omega, cnt_step_yes (hd := hd) (by omega) (by omega) hc5 hn⟩) (by omega) _ ?_
              exact ⟨rfl, rfl, rfl, (by first | rfl | exact slLen (by simp []) | exact intEq (by omega) | exact intEq (by simp []) | exact slLen (by simp []; omega)), rfl, (by first | rfl | exact slLen (by simp []) | exact intEq (by omega) | exact intEq (by simp []) | exact slLen (by simp []; omega)), trivial⟩
            · intro hc5
              have hc5 : ¬ (((((respL ⟨st, fs, b, kp⟩).getD k 0).toNat : Int) = 13) ∧ ((((respL ⟨st, fs, b, kp⟩).getD (k + 1 : Nat) 0).toNat : Int) = 10)) := of_decide_eq_false hc5
              refine At.skip ?_
              refine At.inBlock ?_
              refine At.region ?_
              refine AtL.move (.inl rfl) rfl rfl ?_
              refine AtL.add (z := ((k + 1 : Nat) : Int) + 1) (.inl rfl) rfl rfl rfl (w64 (by omega) (by omega)) ?_
              refine AtL.assign (.inl rfl) rfl rfl ?_
              refine AtL.done ?_
              refine ihL1 (k + 1) n (⟨by omega, by omega, cnt_step_no (hd := hd) (by omega) (by omega) hc5 hn⟩) (by omega) _ ?_
              exact ⟨rfl, rfl, rfl, (by first | rfl | exact slLen (by simp []) | exact intEq (by omega) | exact intEq (by simp []) | exact slLen (by simp []; omega)), rfl, (by first | rfl | exact slLen (by simp []) | exact intEq (by omega) | exact intEq (by simp []) | exact slLen (by simp []; omega)), trivial⟩
        · intro hc4
          have hc4 : ¬ (((k + 1 : Nat) : Int) < (hd : Int)) := of_decide_eq_false hc4
          have hfin : n = cntF (headR ⟨st, fs, b, kp⟩) := by rw [hn, hgL, respB, List.take_append_of_le_length (by omega), List.take_of_length_le (by omega)]
          rw [hcn] at hfin
          refine At.exit rfl ?_
          refine At.seq ?_
          refine At.region ?_
          refine AtL.fieldAddrB tf_fo54_1 (.inl rfl) rfl rfl rfl ?_
          refine AtL.load tf_flat22 (.inl rfl) rfl rfl (Cell.own 1 0 rfl rfl rfl) ?_
          refine AtL.lenL Tryd.underlying22 (.inl rfl) rfl rfl ?_
          refine AtL.add (z := 3 + (fs.length : Int)) (.inl rfl) rfl rfl rfl (w64 (by omega) (by omega)) ?_
          refine AtL.assign (.inl rfl) rfl rfl ?_
          refine AtL.done ?_
          refine At.seq ?_
          refine At.seq ?_
          refine At.region ?_
          refine AtL.fieldAddrB tf_fo54_3 (.inl rfl) rfl rfl rfl ?_
          refine AtL.load tf_flat4 (.inl rfl) rfl rfl (Cell.own 1 0 rfl rfl rfl) ?_
          refine AtL.not (.inl rfl) rfl rfl ?_
          refine AtL.done ?_
          refine At.cond rfl ?_ ?_
          · intro hc6
            have hc6 : kp = false := bnot_true hc6
            refine At.region ?_
            refine AtL.move (.inl rfl) rfl rfl ?_
            refine AtL.add (z := (3 + (fs.length : Int)) + 1) (.inl rfl) rfl rfl rfl (w64 (by omega) (by omega)) ?_
            refine AtL.assign (.inl rfl) rfl rfl ?_
            refine AtL.done ?_
            refine At.seq ?_
            have hleo12 := Own.le_cap o8
            obtain ⟨A10, eA10⟩ : ∃ A10 : Option Addr, A10 = (if C5 = hd then A4 else Option.map (fun a => a.add (hd * tyB.sz)) A4) := ⟨_, rfl⟩
            obtain ⟨C11, eC11⟩ : ∃ C11 : Nat, C11 = C5 - hd := ⟨_, rfl⟩
            have o12 : Own tyB 5 A10 C11 (subl (respL ⟨st, fs, b, kp⟩) hd (respL ⟨st, fs, b, kp⟩).length) s7 := by rw [eA10, eC11]; exact Own.cut o8 (by omega) (by omega) (by omega) (by omega)
            refine At.draw (es := []) (pv := [(0, .bool true), (1, .bool true), (2, .int .i64 (n : Int)), (3, .int .i64 ((3 + (fs.length : Int)) + 1)), (4, .bool true), (5, .bool true), (6, .bool true), (7, .slice A4 (respL ⟨st, fs, b, kp⟩).length C5), (8, .int .i64 (hd : Int)), (9, .slice A10 (subl (respL ⟨st, fs, b, kp⟩) hd (respL ⟨st, fs, b, kp⟩).length).length C11), (10, .pointer (some ⟨b1, 2, none⟩)), (11, .slice A2 b.length C2), (12, .bool true), (13, .bool true), (14, .bool true)]) tf_mixed (by kernel_rfl) (by kernel_rfl) (by kernel_rfl) ?_
            refine ⟨⟨.inr ⟨_, rfl, rfl, .inl ⟨rfl, Do.move rfl⟩⟩, .inr ⟨_, rfl, rfl, .inl ⟨rfl, Do.move rfl⟩⟩, .inr ⟨_, rfl, rfl, .inl ⟨⟨_, _, _, rfl, rfl, rfl, rfl⟩, Do.move rfl⟩⟩, .inr ⟨_, rfl, rfl, .inl ⟨⟨_, _, _, rfl, rfl, rfl, rfl⟩, Do.move rfl⟩⟩, .inr ⟨_, rfl, rfl, .inl ⟨⟨_, _, _, rfl, rfl, rfl, rfl⟩, Do.asBool (Do.eqi rfl rfl) (decide_eq_true (by rw [hc6] at hfin; simp at hfin; omega))⟩⟩, .inr ⟨_, rfl, rfl, .inl ⟨rfl, Do.pickT rfl rfl⟩⟩, .inr ⟨_, rfl, rfl, .inl ⟨rfl, Do.move rfl⟩⟩, .inr ⟨_, rfl, rfl, .inl ⟨⟨_, _, _, rfl, rfl, rfl, rfl⟩, Do.move rfl⟩⟩, .inr ⟨_, rfl, rfl, .inl ⟨⟨_, _, _, rfl, rfl, rfl, rfl⟩, Do.move rfl⟩⟩, .inr ⟨_, rfl, rfl, .inl ⟨⟨_, _, _, rfl, rfl, rfl, rfl⟩, Do.sliceX_ (T := tyB) (l := respL ⟨st, fs, b, kp⟩) hd (respL ⟨st, fs, b, kp⟩).length C5 (evBound_some rfl rfl) rfl rfl (by intro h; cases h) (by omega) (by omega) (Nat.le_refl _) Tryd.underlying25 tf_sz5 rfl eA10 (subl_len (l := respL ⟨st, fs, b, kp⟩) (i := hd) (j := (respL ⟨st, fs, b, kp⟩).length) (by omega)) eC11⟩⟩, .inr ⟨_, rfl, rfl, .inl ⟨⟨_, _, _, rfl, rfl, rfl, rfl⟩, Do.fieldAddrB tf_fo54_2 rfl rfl⟩⟩, .inr ⟨_, rfl, rfl, .inl ⟨⟨_, _, _, rfl, rfl, rfl, rfl⟩, Do.load tf_flat25 rfl (Cell.own 1 0 rfl rfl rfl)⟩⟩, .inr ⟨_, rfl, rfl, .inl ⟨⟨_, _, _, rfl, rfl, rfl, rfl⟩, Do.asBool (Do.call tf_body19 rfl (same_ok (l := subl (respL ⟨st, fs, b, kp⟩) hd (respL ⟨st, fs, b, kp⟩).length) (l2 := b) (o12.rd (i := 0) rfl) (Rd.skip 2 h2))) (decide_eq_true (by rw [hgL, respB, hhd, subl_from, List.drop_left]))⟩⟩, .inr ⟨_, rfl, rfl, .inl ⟨rfl, Do.pickT rfl rfl⟩⟩, .inr ⟨_, rfl, rfl, .inl ⟨rfl, Do.assign rfl⟩⟩, trivial⟩, by kernel_rfl, ?_⟩
            refine At.mono (E' := [(2, .bool true)]) ⟨rfl, trivial⟩ ?_
            refine At.pick (H' := H) [] 2 rfl rfl ?_
            exact At.ret Tryd.func7 rfl rfl (⟨rfl, rfl⟩)
          · intro hc6
            have hc6 : kp = true := bnot_false hc6
            refine At.skip ?_
            refine At.seq ?_
            have hleo15 := Own.le_cap o8
            obtain ⟨A13, eA13⟩ : ∃ A13 : Option Addr, A13 = (if C5 = hd then A4 else Option.map (fun a => a.add (hd * tyB.sz)) A4) := ⟨_, rfl⟩
            obtain ⟨C14, eC14⟩ : ∃ C14 : Nat, C14 = C5 - hd := ⟨_, rfl⟩
            have o15 : Own tyB 5 A13 C14 (subl (respL ⟨st, fs, b, kp⟩) hd (respL ⟨st, fs, b, kp⟩).length) s7 := by rw [eA13, eC14]; exact Own.cut o8 (by omega) (by omega) (by omega) (by omega)
            refine At.draw (es := []) (pv := [(0, .bool true), (1, .bool true), (2, .int .i64 (n : Int)), (3, .int .i64 (3 + (fs.length : Int))), (4, .bool true), (5, .bool true), (6, .bool true), (7, .slice A4 (respL ⟨st, fs, b, kp⟩).length C5), (8, .int .i64 (hd : Int)), (9, .slice A13 (subl (respL ⟨st, fs, b, kp⟩) hd (respL ⟨st, fs, b, kp⟩).length).length C14), (10, .pointer (some ⟨b1, 2, none⟩)), (11, .slice A2 b.length C2), (12, .bool true), (13, .bool true), (14, .bool true)]) tf_mixed (by kernel_rfl) (by kernel_rfl) (by kernel_rfl) ?_
            refine ⟨⟨.inr ⟨_, rfl, rfl, .inl ⟨rfl, Do.move rfl⟩⟩, .inr ⟨_, rfl, rfl, .inl ⟨rfl, Do.move rfl⟩⟩, .inr ⟨_, rfl, rfl, .inl ⟨⟨_, _, _, rfl, rfl, rfl, rfl⟩, Do.move rfl⟩⟩, .inr ⟨_, rfl, rfl, .inl ⟨⟨_, _, _, rfl, rfl, rfl, rfl⟩, Do.move rfl⟩⟩, .inr ⟨_, rfl, rfl, .inl ⟨⟨_, _, _, rfl, rfl, rfl, rfl⟩, Do.asBool (Do.eqi rfl rfl) (decide_eq_true (by rw [hc6] at hfin; simp at hfin; omega))⟩⟩, .inr ⟨_, rfl, rfl, .inl ⟨rfl, Do.pickT rfl rfl⟩⟩, .inr ⟨_, rfl, rfl, .inl ⟨rfl, Do.move rfl⟩⟩, .inr ⟨_, rfl, rfl, .inl ⟨⟨_, _, _, rfl, rfl, rfl, rfl⟩, Do.move rfl⟩⟩, .inr ⟨_, rfl, rfl, .inl ⟨⟨_, _, _, rfl, rfl, rfl, rfl⟩, Do.move rfl⟩⟩, .inr ⟨_, rfl, rfl, .inl ⟨⟨_, _, _, rfl, rfl, rfl, rfl⟩, Do.sliceX_ (T := tyB) (l := respL ⟨st, fs, b, kp⟩) hd (respL ⟨st, fs, b, kp⟩).length C5 (evBound_some rfl rfl) rfl rfl (by intro h; cases h) (by omega) (by omega) (Nat.le_refl _) Tryd.underlying25 tf_sz5 rfl eA13 (subl_len (l := respL ⟨st, fs, b, kp⟩) (i := hd) (j := (respL ⟨st, fs, b, kp⟩).length) (by omega)) eC14⟩⟩, .inr ⟨_, rfl, rfl, .inl ⟨⟨_, _, _, rfl, rfl, rfl, rfl⟩, Do.fieldAddrB tf_fo54_2 rfl rfl⟩⟩, .inr ⟨_, rfl, rfl, .inl ⟨⟨_, _, _, rfl, rfl, rfl, rfl⟩, Do.load tf_flat25 rfl (Cell.own 1 0 rfl rfl rfl)⟩⟩, .inr ⟨_, rfl, rfl, .inl ⟨⟨_, _, _, rfl, rfl, rfl, rfl⟩, Do.asBool (Do.call tf_body19 rfl (same_ok (l := subl (respL ⟨st, fs, b, kp⟩) hd (respL ⟨st, fs, b, kp⟩).length) (l2 := b) (o15.rd (i := 0) rfl) (Rd.skip 2 h2))) (decide_eq_true (by rw [hgL, respB, hhd, subl_from, List.drop_left]))⟩⟩, .inr ⟨_, rfl, rfl, .inl ⟨rfl, Do.pickT rfl rfl⟩⟩, .inr ⟨_, rfl, rfl, .inl ⟨rfl, Do.assign rfl⟩⟩, trivial⟩, by kernel_rfl, ?_⟩
            refine At.mono (E' := [(2, .bool true)]) ⟨rfl, trivial⟩ ?_
            refine At.pick (H' := H) [] 2 rfl rfl ?_
            exact At.ret Tryd.func7 rfl rfl (⟨rfl, rfl⟩)

end Go.Proofs.YtlfkoimkojbghaaDoor
