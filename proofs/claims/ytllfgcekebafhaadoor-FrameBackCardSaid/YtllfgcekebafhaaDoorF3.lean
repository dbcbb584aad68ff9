/- Put, New, and the answer beside it. -/
import Derived.Test.YtllfgcekebafhaaDoorF2
namespace Go.Proofs.YtllfgcekebafhaaDoor
set_option linter.unusedVariables false
set_option linter.unusedSimpArgs false
set_option maxRecDepth 100000

/-- P12.1: which frame a message has. -/
def frmE (l : List UInt8) : Int := if l.length < 12 then 4 else if 65535 < l.length then 3 else 0
def frmL (l : List UInt8) : List UInt8 := if frmE l = 0 then [UInt8.ofInt ((l.length : Int) / 256), UInt8.ofInt (l.length : Int)] ++ l else []
theorem ofInt_mod (a : Int) : UInt8.ofInt (a % 256) = UInt8.ofInt a := by
  apply UInt8.toNat_inj.1
  rw [ofInt_toNat, ofInt_toNat, Int.emod_emod_of_dvd _ (Int.dvd_refl _)]
theorem frmE_le (l : List UInt8) : frmE l = 0 → 12 ≤ l.length ∧ l.length ≤ 65535 := by
  unfold frmE
  repeat' split
  all_goals omega
theorem frmL_len (l : List UInt8) : (frmL l).length ≤ l.length + 2 := by
  unfold frmL
  split <;> simp

set_option maxHeartbeats 400000 in
theorem put_ok {w0 : World} {base : Nat} {H : List Seg} {A : Option Addr} {C : Nat} {l : List UInt8} (h : Rd tyB w0 base H A C l) (hl : l.length ≤ 1000000) :
    SCalls Tryd.prog 11 [.slice A l.length C] w0 base (H) (fun v H' => ∃ x : Sl tyB 5, x.l = frmL l ∧ v = .tuple #[.slice x.A x.l.length x.C, int (frmE l)] ∧ H' = x.s :: H) := by
  refine SCalls.of_walk (n := 22) Tryd.func11 rfl rfl rfl fun cs => ?_
  refine At.seq ?_
  refine At.region ?_
  refine AtL.assign (.inl rfl) rfl rfl ?_
  refine AtL.assign (.inl rfl) rfl rfl ?_
  refine AtL.done ?_
  refine At.seq ?_
  refine At.block ?_
  refine At.seq ?_
  refine At.region ?_
  refine AtL.move (.inl rfl) rfl rfl ?_
  refine AtL.lenL Tryd.underlying22 (.inl rfl) rfl rfl ?_
  refine AtL.lss (.inl rfl) rfl rfl rfl ?_
  refine AtL.assign (.inl rfl) rfl rfl ?_
  refine AtL.done ?_
  refine At.cond rfl ?_ ?_
  · intro hc1
    have hc1 : (l.length : Int) < 12 := of_decide_eq_true hc1
    refine At.seq ?_
    refine At.region ?_
    refine AtL.assign (.inl rfl) rfl rfl ?_
    refine AtL.assign (.inl rfl) rfl rfl ?_
    refine AtL.done ?_
    refine At.nil ?_
    have hE : frmE l = 4 := by rw [frmE, if_pos (by omega)]
    exact At.ret Tryd.func11 rfl rfl (⟨Sl.nil, by rw [frmL, hE]; first | rfl | (simp [ofInt_mod]), by rw [hE]; rfl, rfl⟩)
  · intro hc1
    have hc1 : ¬ ((l.length : Int) < 12) := of_decide_eq_false hc1
    refine At.seq ?_
    refine At.region ?_
    refine AtL.move (.inl rfl) rfl rfl ?_
    refine AtL.lenL Tryd.underlying22 (.inl rfl) rfl rfl ?_
    refine AtL.gtr (.inl rfl) rfl rfl rfl ?_
    refine AtL.assign (.inl rfl) rfl rfl ?_
    refine AtL.done ?_
    refine At.cond rfl ?_ ?_
    · intro hc2
      have hc2 : 65535 < (l.length : Int) := of_decide_eq_true hc2
      refine At.seq ?_
      refine At.region ?_
      refine AtL.assign (.inl rfl) rfl rfl ?_
      refine AtL.assign (.inl rfl) rfl rfl ?_
      refine AtL.done ?_
      refine At.nil ?_
      have hE : frmE l = 3 := by rw [frmE, if_neg (by omega), if_pos (by omega)]
      exact At.ret Tryd.func11 rfl rfl (⟨Sl.nil, by rw [frmL, hE]; first | rfl | (simp [ofInt_mod]), by rw [hE]; rfl, rfl⟩)
    · intro hc2
      have hc2 : ¬ (65535 < (l.length : Int)) := of_decide_eq_false hc2
      refine At.skip ?_
      refine At.inBlock ?_
      refine At.seq ?_
      refine At.region ?_
      refine AtL.move (.inl rfl) rfl rfl ?_
      refine AtL.lenL Tryd.underlying22 (.inl rfl) rfl rfl ?_
      refine AtL.shr (z := (l.length : Int) / 256) (.inl rfl) rfl rfl rfl (by omega) (shr_eq _ _ 8 rfl (by decide) _ (by decide)) ?_
      refine AtL.convInt (z := ((UInt8.ofInt ((l.length : Int) / 256)).toNat : Int)) Tryd.underlying3 Tryd.underlying5 (.inl rfl) rfl rfl (u8_conv _) ?_
      refine AtL.move (.inl rfl) rfl rfl ?_
      refine AtL.lenL Tryd.underlying22 (.inl rfl) rfl rfl ?_
      refine AtL.convInt (z := ((UInt8.ofInt (l.length : Int)).toNat : Int)) Tryd.underlying3 Tryd.underlying5 (.inl rfl) rfl rfl (u8_conv _) ?_
      refine AtL.buildSlice (cs := [.int .u8 ((UInt8.ofInt ((l.length : Int) / 256)).toNat : Int), .int .u8 ((UInt8.ofInt (l.length : Int)).toNat : Int)]) Tryd.underlying22 tf_zero5 tf_sz5 rfl rfl (.inl rfl) rfl rfl rfl ?_
      intro b1
      refine AtL.own1 tyB (l := ([(UInt8.ofInt ((l.length : Int) / 256)), (UInt8.ofInt (l.length : Int))] : List UInt8)) rfl rfl (by first | decide | simp) ?_
      intro s2 o3
      refine AtL.move (.inl rfl) rfl rfl ?_
      refine AtL.append (l := [(UInt8.ofInt ((l.length : Int) / 256)), (UInt8.ofInt (l.length : Int))]) (news := l) 0 tf_el22 rfl o3 (Rd.skip 1 h) (by first | omega | (simp only [List.length_append, List.length_cons, List.length_nil]; omega) | (simp; done) | (simp; omega)) (.inl rfl) rfl rfl rfl ?_
      intro A4 C5 s6 o7
      refine AtL.assign (.inl rfl) rfl rfl ?_
      refine AtL.assign (.inl rfl) rfl rfl ?_
      refine AtL.done ?_
      have hE : frmE l = 0 := by rw [frmE, if_neg (by omega), if_neg (by omega)]
      exact At.ret Tryd.func11 rfl rfl (⟨⟨A4, C5, [(UInt8.ofInt ((l.length : Int) / 256)), (UInt8.ofInt (l.length : Int))] ++ l, s6, o7⟩, by rw [frmL, hE]; first | rfl | (simp [ofInt_mod]), by rw [hE]; rfl, rfl⟩)

set_option maxHeartbeats 400000 in
theorem rput_ok {w0 : World} {base : Nat} {H : List Seg} {A : Option Addr} {C : Nat} {l : List UInt8} (h : Rd tyB w0 base H A C l) (hl : l.length ≤ 1000000) :
    SCalls Tryd.prog 12 [.slice A l.length C] w0 base (H) (fun v H' => ∃ x : Sl tyB 5, x.l = frmL l ∧ v = .tuple #[.slice x.A x.l.length x.C, int (frmE l)] ∧ H' = x.s :: H) := by
  refine SCalls.of_walk (n := 21) Tryd.func12 rfl rfl rfl fun cs => ?_
  refine At.seq ?_
  refine At.region ?_
  refine AtL.assign (.inl rfl) rfl rfl ?_
  refine AtL.assign (.inl rfl) rfl rfl ?_
  refine AtL.done ?_
  refine At.seq ?_
  refine At.seq ?_
  refine At.region ?_
  refine AtL.move (.inl rfl) rfl rfl ?_
  refine AtL.lenL Tryd.underlying22 (.inl rfl) rfl rfl ?_
  refine AtL.lss (.inl rfl) rfl rfl rfl ?_
  refine AtL.done ?_
  refine At.cond rfl ?_ ?_
  · intro hc1
    have hc1 : (l.length : Int) < 12 := of_decide_eq_true hc1
    refine At.seq ?_
    refine At.region ?_
    refine AtL.assign (.inl rfl) rfl rfl ?_
    refine AtL.assign (.inl rfl) rfl rfl ?_
    refine AtL.done ?_
    refine At.nil ?_
    have hE : frmE l = 4 := by rw [frmE, if_pos (by omega)]
    exact At.ret Tryd.func12 rfl rfl (⟨Sl.nil, by rw [frmL, hE]; first | rfl | (simp [ofInt_mod]), by rw [hE]; rfl, rfl⟩)
  · intro hc1
    have hc1 : ¬ ((l.length : Int) < 12) := of_decide_eq_false hc1
    refine At.skip ?_
    refine At.seq ?_
    refine At.seq ?_
    refine At.region ?_
    refine AtL.move (.inl rfl) rfl rfl ?_
    refine AtL.lenL Tryd.underlying22 (.inl rfl) rfl rfl ?_
    refine AtL.gtr (.inl rfl) rfl rfl rfl ?_
    refine AtL.done ?_
    refine At.cond rfl ?_ ?_
    · intro hc2
      have hc2 : 65535 < (l.length : Int) := of_decide_eq_true hc2
      refine At.seq ?_
      refine At.region ?_
      refine AtL.assign (.inl rfl) rfl rfl ?_
      refine AtL.assign (.inl rfl) rfl rfl ?_
      refine AtL.done ?_
      refine At.nil ?_
      have hE : frmE l = 3 := by rw [frmE, if_neg (by omega), if_pos (by omega)]
      exact At.ret Tryd.func12 rfl rfl (⟨Sl.nil, by rw [frmL, hE]; first | rfl | (simp [ofInt_mod]), by rw [hE]; rfl, rfl⟩)
    · intro hc2
      have hc2 : ¬ (65535 < (l.length : Int)) := of_decide_eq_false hc2
      refine At.skip ?_
      refine At.seq ?_
      refine At.region ?_
      refine AtL.move (.inl rfl) rfl rfl ?_
      refine AtL.lenL Tryd.underlying22 (.inl rfl) rfl rfl ?_
      refine AtL.quo (z := (l.length : Int) / 256) (.inl rfl) rfl rfl rfl (by omega) (quo_eq (by omega) (by omega) (by omega)) ?_
      refine AtL.convInt (z := ((UInt8.ofInt ((l.length : Int) / 256)).toNat : Int)) Tryd.underlying3 Tryd.underlying5 (.inl rfl) rfl rfl (u8_conv _) ?_
      refine AtL.move (.inl rfl) rfl rfl ?_
      refine AtL.lenL Tryd.underlying22 (.inl rfl) rfl rfl ?_
      refine AtL.rem (z := (l.length : Int) % 256) (.inl rfl) rfl rfl rfl (by omega) (rem_eq (by omega)) ?_
      refine AtL.convInt (z := ((UInt8.ofInt ((l.length : Int) % 256)).toNat : Int)) Tryd.underlying3 Tryd.underlying5 (.inl rfl) rfl rfl (u8_conv _) ?_
      refine AtL.buildSlice (cs := [.int .u8 ((UInt8.ofInt ((l.length : Int) / 256)).toNat : Int), .int .u8 ((UInt8.ofInt ((l.length : Int) % 256)).toNat : Int)]) Tryd.underlying22 tf_zero5 tf_sz5 rfl rfl (.inl rfl) rfl rfl rfl ?_
      intro b1
      refine AtL.own1 tyB (l := ([(UInt8.ofInt ((l.length : Int) / 256)), (UInt8.ofInt ((l.length : Int) % 256))] : List UInt8)) rfl rfl (by first | decide | simp) ?_
      intro s2 o3
      refine AtL.move (.inl rfl) rfl rfl ?_
      refine AtL.append (l := [(UInt8.ofInt ((l.length : Int) / 256)), (UInt8.ofInt ((l.length : Int) % 256))]) (news := l) 0 tf_el22 rfl o3 (Rd.skip 1 h) (by first | omega | (simp only [List.length_append, List.length_cons, List.length_nil]; omega) | (simp; done) | (simp; omega)) (.inl rfl) rfl rfl rfl ?_
      intro A4 C5 s6 o7
      refine AtL.assign (.inl rfl) rfl rfl ?_
      refine AtL.assign (.inl rfl) rfl rfl ?_
      refine AtL.done ?_
      have hE : frmE l = 0 := by rw [frmE, if_neg (by omega), if_neg (by omega)]
      exact At.ret Tryd.func12 rfl rfl (⟨⟨A4, C5, [(UInt8.ofInt ((l.length : Int) / 256)), (UInt8.ofInt ((l.length : Int) % 256))] ++ l, s6, o7⟩, by rw [frmL, hE]; first | rfl | (simp [ofInt_mod]), by rw [hE]; rfl, rfl⟩)

set_option maxHeartbeats 400000 in
theorem new_bad {w0 : World} {base : Nat} {H : List Seg} (m : Int) (hm : m < 12 ∨ 65535 < m) :
    SCalls Tryd.prog 20 [.int .i64 m] w0 base (H) (fun v H' => v = .tuple #[.pointer none, int 2] ∧ H' = H) := by
  refine SCalls.of_walk (n := 13) Tryd.func20 rfl rfl rfl fun cs => ?_
  refine At.seq ?_
  refine At.region ?_
  refine AtL.assign (.inl rfl) rfl rfl ?_
  refine AtL.assign (.inl rfl) rfl rfl ?_
  refine AtL.done ?_
  refine At.seq ?_
  refine At.seq ?_
  refine At.region ?_
  refine AtL.move (.inl rfl) rfl rfl ?_
  refine AtL.lss (.inl rfl) rfl rfl rfl ?_
  refine AtL.move (.inl rfl) rfl rfl ?_
  refine AtL.join 3 (E' := [(9, .bool (decide (((m : Int) < 12) ∨ (65535 < (m : Int))))), (0, .int .i64 m)]) (H' := H) (fun J => ?_) ?_
  · refine AtL.split (t := 6) rfl ?_ ?_
    · intro hs6
      have hs6 : (m : Int) < 12 := of_decide_eq_true hs6
      refine AtL.skipped rfl rfl rfl rfl rfl rfl ?_
      refine AtL.skipped rfl rfl rfl rfl rfl rfl ?_
      refine AtL.pickT (.inl rfl) rfl rfl rfl ?_
      exact J _ (by exact ⟨(boolIs (by clear J; first | (simp [hs6]; done) | (simp_all; done) | grind)), rfl, trivial⟩)
    · intro hs6
      have hs6 : ¬ ((m : Int) < 12) := of_decide_eq_false hs6
      refine AtL.move (.inr ⟨_, _, _, rfl, rfl, rfl, rfl⟩) rfl rfl ?_
      refine AtL.gtr (.inr ⟨_, _, _, rfl, rfl, rfl, rfl⟩) rfl rfl rfl ?_
      refine AtL.pickF (.inl rfl) rfl rfl rfl ?_
      exact J _ (by exact ⟨(boolIs (by clear J; first | (simp [hs6]; done) | (simp_all; done) | grind)), rfl, trivial⟩)
  · skip
    refine AtL.done ?_
    refine At.condIs true rfl (decide_eq_true hm) ?_
    refine At.seq ?_
    refine At.region ?_
    refine AtL.assign (.inl rfl) rfl rfl ?_
    refine AtL.assign (.inl rfl) rfl rfl ?_
    refine AtL.done ?_
    exact At.ret Tryd.func20 rfl rfl (⟨rfl, rfl⟩)

set_option maxHeartbeats 400000 in
theorem new_ok {w0 : World} {base : Nat} {H : List Seg} (m : Int) (hm : ¬ (m < 12 ∨ 65535 < m)) :
    SCalls Tryd.prog 20 [.int .i64 m] w0 base (H) (fun v H' => ∃ b : Nat, v = .tuple #[.pointer (some ⟨b, 0, none⟩), int 0] ∧ H' = [(b, .cells #[.int .i64 m, .bool false, .slice none 0 0, .int .i64 0, .int .i8 0, .int .i64 0] 56 (0, 0))] :: H) := by
  refine SCalls.of_walk (n := 13) Tryd.func20 rfl rfl rfl fun cs => ?_
  refine At.seq ?_
  refine At.region ?_
  refine AtL.assign (.inl rfl) rfl rfl ?_
  refine AtL.assign (.inl rfl) rfl rfl ?_
  refine AtL.done ?_
  refine At.seq ?_
  refine At.seq ?_
  refine At.region ?_
  refine AtL.move (.inl rfl) rfl rfl ?_
  refine AtL.lss (.inl rfl) rfl rfl rfl ?_
  refine AtL.move (.inl rfl) rfl rfl ?_
  refine AtL.join 3 (E' := [(9, .bool (decide (((m : Int) < 12) ∨ (65535 < (m : Int))))), (0, .int .i64 m)]) (H' := H) (fun J => ?_) ?_
  · refine AtL.split (t := 6) rfl ?_ ?_
    · intro hs6
      have hs6 : (m : Int) < 12 := of_decide_eq_true hs6
      refine AtL.skipped rfl rfl rfl rfl rfl rfl ?_
      refine AtL.skipped rfl rfl rfl rfl rfl rfl ?_
      refine AtL.pickT (.inl rfl) rfl rfl rfl ?_
      exact J _ (by exact ⟨(boolIs (by clear J; first | (simp [hs6]; done) | (simp_all; done) | grind)), rfl, trivial⟩)
    · intro hs6
      have hs6 : ¬ ((m : Int) < 12) := of_decide_eq_false hs6
      refine AtL.move (.inr ⟨_, _, _, rfl, rfl, rfl, rfl⟩) rfl rfl ?_
      refine AtL.gtr (.inr ⟨_, _, _, rfl, rfl, rfl, rfl⟩) rfl rfl rfl ?_
      refine AtL.pickF (.inl rfl) rfl rfl rfl ?_
      exact J _ (by exact ⟨(boolIs (by clear J; first | (simp [hs6]; done) | (simp_all; done) | grind)), rfl, trivial⟩)
  · skip
    refine AtL.done ?_
    refine At.condIs false rfl (decide_eq_false hm) ?_
    refine At.skip ?_
    refine At.seq ?_
    refine At.region ?_
    refine AtL.move (.inl rfl) rfl rfl ?_
    refine AtL.build (cs := [.int .i64 m, .bool false, .slice none 0 0, .int .i64 0, .int .i8 0, .int .i64 0]) tf_lay56 (.inl rfl) rfl rfl rfl ?_
    refine AtL.box (cs := #[.int .i64 m, .bool false, .slice none 0 0, .int .i64 0, .int .i8 0, .int .i64 0]) rfl (.inl rfl) rfl rfl ?_
    intro b1
    refine AtL.assign (.inl rfl) rfl rfl ?_
    refine AtL.assign (.inl rfl) rfl rfl ?_
    refine AtL.done ?_
    exact At.ret Tryd.func20 rfl rfl (⟨_, rfl, rfl⟩)

set_option maxHeartbeats 400000 in
theorem rnew_bad {w0 : World} {base : Nat} {H : List Seg} (m : Int) (hm : m < 12 ∨ 65535 < m) :
    SCalls Tryd.prog 21 [.int .i64 m] w0 base (H) (fun v H' => v = .tuple #[.pointer none, int 2] ∧ H' = H) := by
  refine SCalls.of_walk (n := 13) Tryd.func21 rfl rfl rfl fun cs => ?_
  refine At.seq ?_
  refine At.region ?_
  refine AtL.assign (.inl rfl) rfl rfl ?_
  refine AtL.assign (.inl rfl) rfl rfl ?_
  refine AtL.done ?_
  refine At.seq ?_
  refine At.seq ?_
  refine At.region ?_
  refine AtL.move (.inl rfl) rfl rfl ?_
  refine AtL.lss (.inl rfl) rfl rfl rfl ?_
  refine AtL.move (.inl rfl) rfl rfl ?_
  refine AtL.join 3 (E' := [(9, .bool (decide (((m : Int) < 12) ∨ (65535 < (m : Int))))), (0, .int .i64 m)]) (H' := H) (fun J => ?_) ?_
  · refine AtL.split (t := 6) rfl ?_ ?_
    · intro hs6
      have hs6 : (m : Int) < 12 := of_decide_eq_true hs6
      refine AtL.skipped rfl rfl rfl rfl rfl rfl ?_
      refine AtL.skipped rfl rfl rfl rfl rfl rfl ?_
      refine AtL.pickT (.inl rfl) rfl rfl rfl ?_
      exact J _ (by exact ⟨(boolIs (by clear J; first | (simp [hs6]; done) | (simp_all; done) | grind)), rfl, trivial⟩)
    · intro hs6
      have hs6 : ¬ ((m : Int) < 12) := of_decide_eq_false hs6
      refine AtL.move (.inr ⟨_, _, _, rfl, rfl, rfl, rfl⟩) rfl rfl ?_
      refine AtL.gtr (.inr ⟨_, _, _, rfl, rfl, rfl, rfl⟩) rfl rfl rfl ?_
      refine AtL.pickF (.inl rfl) rfl rfl rfl ?_
      exact J _ (by exact ⟨(boolIs (by clear J; first | (simp [hs6]; done) | (simp_all; done) | grind)), rfl, trivial⟩)
  · skip
    refine AtL.done ?_
    refine At.condIs true rfl (decide_eq_true hm) ?_
    refine At.seq ?_
    refine At.region ?_
    refine AtL.assign (.inl rfl) rfl rfl ?_
    refine AtL.assign (.inl rfl) rfl rfl ?_
    refine AtL.done ?_
    exact At.ret Tryd.func21 rfl rfl (⟨rfl, rfl⟩)

set_option maxHeartbeats 400000 in
theorem rnew_ok {w0 : World} {base : Nat} {H : List Seg} (m : Int) (hm : ¬ (m < 12 ∨ 65535 < m)) :
    SCalls Tryd.prog 21 [.int .i64 m] w0 base (H) (fun v H' => ∃ b : Nat, v = .tuple #[.pointer (some ⟨b, 0, none⟩), int 0] ∧ H' = [(b, .cells #[.int .i64 m, .slice none 0 0, .bool false] 49 (0, 0))] :: H) := by
  refine SCalls.of_walk (n := 13) Tryd.func21 rfl rfl rfl fun cs => ?_
  refine At.seq ?_
  refine At.region ?_
  refine AtL.assign (.inl rfl) rfl rfl ?_
  refine AtL.assign (.inl rfl) rfl rfl ?_
  refine AtL.done ?_
  refine At.seq ?_
  refine At.seq ?_
  refine At.region ?_
  refine AtL.move (.inl rfl) rfl rfl ?_
  refine AtL.lss (.inl rfl) rfl rfl rfl ?_
  refine AtL.move (.inl rfl) rfl rfl ?_
  refine AtL.join 3 (E' := [(9, .bool (decide (((m : Int) < 12) ∨ (65535 < (m : Int))))), (0, .int .i64 m)]) (H' := H) (fun J => ?_) ?_
  · refine AtL.split (t := 6) rfl ?_ ?_
    · intro hs6
      have hs6 : (m : Int) < 12 := of_decide_eq_true hs6
      refine AtL.skipped rfl rfl rfl rfl rfl rfl ?_
      refine AtL.skipped rfl rfl rfl rfl rfl rfl ?_
      refine AtL.pickT (.inl rfl) rfl rfl rfl ?_
      exact J _ (by exact ⟨(boolIs (by clear J; first | (simp [hs6]; done) | (simp_all; done) | grind)), rfl, trivial⟩)
    · intro hs6
      have hs6 : ¬ ((m : Int) < 12) := of_decide_eq_false hs6
      refine AtL.move (.inr ⟨_, _, _, rfl, rfl, rfl, rfl⟩) rfl rfl ?_
      refine AtL.gtr (.inr ⟨_, _, _, rfl, rfl, rfl, rfl⟩) rfl rfl rfl ?_
      refine AtL.pickF (.inl rfl) rfl rfl rfl ?_
      exact J _ (by exact ⟨(boolIs (by clear J; first | (simp [hs6]; done) | (simp_all; done) | grind)), rfl, trivial⟩)
  · skip
    refine AtL.done ?_
    refine At.condIs false rfl (decide_eq_false hm) ?_
    refine At.skip ?_
    refine At.seq ?_
    refine At.region ?_
    refine AtL.move (.inl rfl) rfl rfl ?_
    refine AtL.build (cs := [.int .i64 m, .slice none 0 0, .bool false]) tf_lay49 (.inl rfl) rfl rfl rfl ?_
    refine AtL.box (cs := #[.int .i64 m, .slice none 0 0, .bool false]) rfl (.inl rfl) rfl rfl ?_
    intro b1
    refine AtL.assign (.inl rfl) rfl rfl ?_
    refine AtL.assign (.inl rfl) rfl rfl ?_
    refine AtL.done ?_
    exact At.ret Tryd.func21 rfl rfl (⟨_, rfl, rfl⟩)

set_option maxHeartbeats 400000 in
theorem rwant_ok {w0 : World} {base : Nat} {H : List Seg} {b : Nat} {y : Sl tyB 5} {m : Int} {out : Bool} (hl : y.l.length ≤ 500000000) :
    SCalls Tryd.prog 27 [.pointer (some ⟨b, 0, none⟩)] w0 base (y.s :: [(b, .cells #[.int .i64 m, .slice y.A y.l.length y.C, .bool out] 49 (0, 0))] :: H) (fun v H' => v = int (wantF y.l) ∧ H' = y.s :: [(b, .cells #[.int .i64 m, .slice y.A y.l.length y.C, .bool out] 49 (0, 0))] :: H) := by
  refine SCalls.of_walk (n := 32) Tryd.func27 rfl rfl rfl fun cs => ?_
  refine At.seq ?_
  refine At.region ?_
  refine AtL.assign (.inl rfl) rfl rfl ?_
  refine AtL.done ?_
  refine At.seq ?_
  refine At.seq ?_
  refine At.region ?_
  refine AtL.move (.inl rfl) rfl rfl ?_
  refine AtL.nilCheck (.inl rfl) rfl rfl ?_
  refine AtL.fieldAddrB tf_fo49_1 (.inl rfl) rfl rfl rfl ?_
  refine AtL.load tf_flat22 (.inl rfl) rfl rfl (Cell.own 1 0 rfl rfl rfl) ?_
  refine AtL.lenL Tryd.underlying22 (.inl rfl) rfl rfl ?_
  refine AtL.lss (.inl rfl) rfl rfl rfl ?_
  refine AtL.done ?_
  refine At.cond rfl ?_ ?_
  · intro hc1
    have hc1 : (y.l.length : Int) < 2 := of_decide_eq_true hc1
    refine At.seq ?_
    refine At.region ?_
    refine AtL.assign (.inl rfl) rfl rfl ?_
    refine AtL.done ?_
    exact At.ret Tryd.func27 rfl rfl (⟨congrArg int (by rw [wantF, if_pos (by omega)]), rfl⟩)
  · intro hc1
    have hc1 : ¬ ((y.l.length : Int) < 2) := of_decide_eq_false hc1
    refine At.skip ?_
    refine At.seq ?_
    have hB1 := u8_le ((y.l.getD 0 0))
    have hB2 := u8_le ((y.l.getD 1 0))
    refine At.draw (es := []) (pv := [(0, .pointer (some ⟨b, 0, none⟩)), (1, .pointer (some ⟨b, 0, none⟩)), (2, .pointer (some ⟨b, 1, none⟩)), (3, .slice y.A y.l.length y.C), (4, .pointer (some (eaddr y.A (0 * tyB.sz)))), (5, .int .u8 ((y.l.getD 0 0).toNat : Int)), (6, .int .i64 ((y.l.getD 0 0).toNat : Int)), (7, .int .i64 (256 * ((y.l.getD 0 0).toNat : Int))), (8, .pointer (some ⟨b, 0, none⟩)), (9, .pointer (some ⟨b, 0, none⟩)), (10, .pointer (some ⟨b, 1, none⟩)), (11, .slice y.A y.l.length y.C), (12, .pointer (some (eaddr y.A (1 * tyB.sz)))), (13, .int .u8 ((y.l.getD 1 0).toNat : Int)), (14, .int .i64 ((y.l.getD 1 0).toNat : Int)), (15, .int .i64 ((256 * ((y.l.getD 0 0).toNat : Int)) + ((y.l.getD 1 0).toNat : Int))), (16, .pointer (some ⟨b, 0, none⟩)), (17, .pointer (some ⟨b, 0, none⟩)), (18, .pointer (some ⟨b, 1, none⟩)), (19, .slice y.A y.l.length y.C), (20, .int .i64 (y.l.length : Int)), (21, .int .i64 ((y.l.length : Int) - 2)), (22, .int .i64 ((szF y.l : Int) + 2 - (y.l.length : Int))), (23, .int .i64 ((szF y.l : Int) + 2 - (y.l.length : Int)))]) tf_mixed (by kernel_rfl) (by kernel_rfl) (by kernel_rfl) ?_
    refine ⟨⟨.inr ⟨_, rfl, rfl, .inl ⟨rfl, Do.move rfl⟩⟩, .inr ⟨_, rfl, rfl, .inl ⟨rfl, Do.nilCheck rfl⟩⟩, .inr ⟨_, rfl, rfl, .inl ⟨rfl, Do.fieldAddrB tf_fo49_1 rfl rfl⟩⟩, .inr ⟨_, rfl, rfl, .inl ⟨rfl, Do.load tf_flat22 rfl (Cell.own 1 0 rfl rfl rfl)⟩⟩, .inr ⟨_, rfl, rfl, .inl ⟨rfl, Do.indexL 0 (y.own.rd (i := 0) rfl) Tryd.underlying22 tf_sz5 rfl rfl rfl (by omega)⟩⟩, .inr ⟨_, rfl, rfl, .inl ⟨rfl, Do.load (v := .int .u8 ((y.l.getD 0 0).toNat : Int)) tf_flat5 rfl (Rd.cell0 (y.own.rd (i := 0) rfl) (getD_some 0 (by omega)) rfl)⟩⟩, .inr ⟨_, rfl, rfl, .inl ⟨rfl, Do.convInt (z := ((y.l.getD 0 0).toNat : Int)) Tryd.underlying5 Tryd.underlying3 rfl (u8_i64 _)⟩⟩, .inr ⟨_, rfl, rfl, .inl ⟨rfl, Do.mul (z := 256 * ((y.l.getD 0 0).toNat : Int)) rfl rfl (w64 (by omega) (by omega))⟩⟩, .inr ⟨_, rfl, rfl, .inl ⟨rfl, Do.move rfl⟩⟩, .inr ⟨_, rfl, rfl, .inl ⟨rfl, Do.nilCheck rfl⟩⟩, .inr ⟨_, rfl, rfl, .inl ⟨rfl, Do.fieldAddrB tf_fo49_1 rfl rfl⟩⟩, .inr ⟨_, rfl, rfl, .inl ⟨rfl, Do.load tf_flat22 rfl (Cell.own 1 0 rfl rfl rfl)⟩⟩, .inr ⟨_, rfl, rfl, .inl ⟨rfl, Do.indexL 1 (y.own.rd (i := 0) rfl) Tryd.underlying22 tf_sz5 rfl rfl rfl (by omega)⟩⟩, .inr ⟨_, rfl, rfl, .inl ⟨rfl, Do.load (v := .int .u8 ((y.l.getD 1 0).toNat : Int)) tf_flat5 rfl (Rd.cell0 (y.own.rd (i := 0) rfl) (getD_some 0 (by omega)) rfl)⟩⟩, .inr ⟨_, rfl, rfl, .inl ⟨rfl, Do.convInt (z := ((y.l.getD 1 0).toNat : Int)) Tryd.underlying5 Tryd.underlying3 rfl (u8_i64 _)⟩⟩, .inr ⟨_, rfl, rfl, .inl ⟨rfl, Do.add (z := (256 * ((y.l.getD 0 0).toNat : Int)) + ((y.l.getD 1 0).toNat : Int)) rfl rfl (w64 (by omega) (by omega))⟩⟩, .inr ⟨_, rfl, rfl, .inl ⟨rfl, Do.move rfl⟩⟩, .inr ⟨_, rfl, rfl, .inl ⟨rfl, Do.nilCheck rfl⟩⟩, .inr ⟨_, rfl, rfl, .inl ⟨rfl, Do.fieldAddrB tf_fo49_1 rfl rfl⟩⟩, .inr ⟨_, rfl, rfl, .inl ⟨rfl, Do.load tf_flat22 rfl (Cell.own 1 0 rfl rfl rfl)⟩⟩, .inr ⟨_, rfl, rfl, .inl ⟨rfl, Do.lenL Tryd.underlying22 rfl⟩⟩, .inr ⟨_, rfl, rfl, .inl ⟨rfl, Do.sub (z := (y.l.length : Int) - 2) rfl rfl (w64 (by omega) (by omega))⟩⟩, .inr ⟨_, rfl, rfl, .inl ⟨rfl, Do.sub (z := ((szF y.l : Int) + 2 - (y.l.length : Int))) rfl rfl (by rw [w64 (by omega) (by omega)]; unfold szF; omega)⟩⟩, .inr ⟨_, rfl, rfl, .inl ⟨rfl, Do.assign rfl⟩⟩, trivial⟩, by kernel_rfl, ?_⟩
    refine At.mono (E' := [(2, .int .i64 ((szF y.l : Int) + 2 - (y.l.length : Int)))]) ⟨rfl, trivial⟩ ?_
    exact At.ret Tryd.func27 rfl rfl (⟨congrArg int (by rw [wantF, if_neg (by omega)]), rfl⟩)

/-- What a reader tells of a piece, when it kept so much. -/
def frP (br : Bool) (m : Int) (k l : List UInt8) : FrR := if br = true then ⟨[], 9, k⟩ else frF m (k ++ l)
def frB (br : Bool) (m : Int) (k l : List UInt8) : Bool := if br = true then true else decide ((frF m (k ++ l)).e ≠ 0)
theorem frB_e {br : Bool} {m e : Int} {k l : List UInt8} (he : br = false → e = 0) (h : frB br m k l = false) : (if br = true then e else (frF m (k ++ l)).e) = 0 := by
  unfold frB at h
  split at h
  · cases h
  · rename_i h2
    rw [if_neg h2]
    simpa using h
theorem frF_rest (m : Int) (c : List UInt8) : (frF m c).e ≠ 0 → (frF m c).rest = [] := by
  induction c using (measure List.length).wf.induction with
  | _ c ih =>
    by_cases h : (frS m c).e = 0
    · by_cases hn : (frS m c).n = 0
      · rw [frF_none h hn]; simp
      · have := frS_n m c hn
        rw [frF_more hn]
        exact ih _ (show (List.drop _ _).length < _ by simp; omega)
    · rw [frF_err h]; simp

set_option maxHeartbeats 1000000 in
theorem rpush_ok {w0 : World} {base : Nat} {H : List Seg} {b : Nat} {y : Sl tyB 5} {m : Int} {out : Bool} {A : Option Addr} {C : Nat} {l : List UInt8} (h : Rd tyB w0 base H A C l) (hl : y.l.length + l.length ≤ 500000000) (hm : 12 ≤ m ∧ m ≤ 65535) :
    SCalls Tryd.prog 24 [.pointer (some ⟨b, 0, none⟩), .slice A l.length C] w0 base (y.s :: [(b, .cells #[.int .i64 m, .slice y.A y.l.length y.C, .bool out] 49 (0, 0))] :: H) (fun v H' => ∃ (x : Sl tyL 22) (ys : List (Sl tyB 5)) (z : Sl tyB 5), x.l = ys.map Sl.v ∧ ys.map (·.l) = (frP out m y.l l).out ∧ z.l = (frP out m y.l l).rest ∧ v = .tuple #[.slice x.A x.l.length x.C, int (frP out m y.l l).e] ∧ H' = x.s :: segsOf ys :: z.s :: [(b, .cells #[.int .i64 m, .slice z.A z.l.length z.C, .bool (frB out m y.l l)] 49 (0, 0))] :: H) := by
  refine SCalls.of_walk (n := 91) Tryd.func24 rfl rfl rfl fun cs => ?_
  refine At.seq ?_
  refine At.region ?_
  refine AtL.assign (.inl rfl) rfl rfl ?_
  refine AtL.assign (.inl rfl) rfl rfl ?_
  refine AtL.done ?_
  refine At.seq ?_
  refine At.seq ?_
  refine At.region ?_
  refine AtL.move (.inl rfl) rfl rfl ?_
  refine AtL.nilCheck (.inl rfl) rfl rfl ?_
  refine AtL.fieldAddrB tf_fo49_2 (.inl rfl) rfl rfl rfl ?_
  refine AtL.load tf_flat4 (.inl rfl) rfl rfl (Cell.own 1 0 rfl rfl rfl) ?_
  refine AtL.done ?_
  refine At.cond rfl ?_ ?_
  · intro hc1
    have hc1 : out = true := hc1
    refine At.seq ?_
    refine At.region ?_
    refine AtL.assign (.inl rfl) rfl rfl ?_
    refine AtL.assign (.inl rfl) rfl rfl ?_
    refine AtL.done ?_
    refine At.nil ?_
    refine At.nil ?_
    have hp : frP out m y.l l = ⟨[], 9, y.l⟩ := by rw [frP, if_pos hc1]
    have hq : frB out m y.l l = out := by rw [frB, if_pos hc1, hc1]
    rw [hp, hq]
    exact At.ret Tryd.func24 rfl rfl (⟨Sl.nil, [], y, rfl, rfl, rfl, rfl, rfl⟩)
  · intro hc1
    have hc1 : out = false := hc1
    refine At.skip ?_
    refine At.seq ?_
    refine At.region ?_
    refine AtL.buildSlice (cs := []) Tryd.underlying22 tf_zero5 tf_sz5 rfl rfl (.inl rfl) rfl rfl rfl ?_
    intro b1
    refine AtL.own1 tyB (l := ([] : List UInt8)) rfl rfl (by first | decide | simp) ?_
    intro s2 o3
    refine AtL.move (.inl rfl) rfl rfl ?_
    refine AtL.nilCheck (.inl rfl) rfl rfl ?_
    refine AtL.fieldAddrB tf_fo49_1 (.inl rfl) rfl rfl rfl ?_
    refine AtL.load tf_flat22 (.inl rfl) rfl rfl (Cell.own 2 0 rfl rfl rfl) ?_
    refine AtL.append (l := []) (news := y.l) 0 tf_el22 rfl o3 (y.own.rd (i := 1) rfl) (by first | omega | (simp only [List.length_append, List.length_cons, List.length_nil]; omega) | (simp; done) | (simp; omega)) (.inl rfl) rfl rfl rfl ?_
    intro A4 C5 s6 o7
    refine AtL.move (.inl rfl) rfl rfl ?_
    refine AtL.append (l := [] ++ y.l) (news := l) 0 tf_el22 rfl o7 (Rd.skip 3 h) (by first | omega | (simp only [List.length_append, List.length_cons, List.length_nil]; omega) | (simp; done) | (simp; omega)) (.inl rfl) rfl rfl rfl ?_
    intro A8 C9 s10 o11
    refine AtL.assign (.inl rfl) rfl rfl ?_
    refine AtL.done ?_
    refine At.seq ?_
    refine At.region ?_
    refine AtL.assign (.inl rfl) rfl rfl ?_
    refine AtL.done ?_
    refine At.seq ?_
    refine At.region ?_
    refine AtL.assign (.inl rfl) rfl rfl ?_
    refine AtL.done ?_
    refine At.seq ?_
    refine At.block ?_
    refine At.nil ?_
    refine At.nil ?_
    obtain ⟨L, hL⟩ : ∃ L, L = y.l ++ l := ⟨_, rfl⟩
    have hLl : L.length = y.l.length + l.length := by rw [hL, List.length_append]
    have o11 : Own tyB 5 A8 (C9) L s10 := by rw [hL]; simpa using o11
    refine At.pick (H' := [] :: [] :: s10 :: [(b, .cells #[.int .i64 m, .slice y.A y.l.length y.C, .bool out] 49 (0, 0))] :: H) [0, 1, 2, 4] 5 rfl rfl ?_
    refine At.loop3 (fun (i : Nat) (x : Sl tyL 22) (ys : List (Sl tyB 5)) => [(0, .pointer (some ⟨b, 0, none⟩)), (6, .slice A8 L.length C9), (7, .slice x.A x.l.length x.C), (8, .int .i64 (i : Int))]) (fun (i : Nat) (x : Sl tyL 22) (ys : List (Sl tyB 5)) => x.s :: segsOf ys :: s10 :: [(b, .cells #[.int .i64 m, .slice y.A y.l.length y.C, .bool out] 49 (0, 0))] :: H) (fun (i : Nat) (x : Sl tyL 22) (ys : List (Sl tyB 5)) => ys.map (·.l) ++ (frF m (L.drop i)).out = (frF m L).out ∧ (frF m (L.drop i)).e = (frF m L).e ∧ (frF m (L.drop i)).rest = (frF m L).rest ∧ i ≤ L.length ∧ ys.length ≤ i ∧ x.l = ys.map Sl.v) (fun (i : Nat) (x : Sl tyL 22) (ys : List (Sl tyB 5)) => L.length - i) 0 Sl.nil [] (⟨rfl, rfl, rfl, Nat.zero_le _, Nat.le_refl _, rfl⟩) ⟨rfl, slLen (by rw [hL]; simp), rfl, rfl, trivial⟩ rfl ?_
    rintro i x ys ⟨hI, hIe, hIr, hi, hys, hxy⟩ ihL1
    have hxl : x.l.length = ys.length := by rw [hxy, List.length_map]
    have hg0 := getD_drop L i 0
    have hg1 := getD_drop L i 1
    have hld := List.length_drop (l := L) (i := i)
    have hsz : szF (L.drop i) = 256 * (L.getD i 0).toNat + (L.getD (i + 1) 0).toNat := by rw [szF, hg0, hg1, Nat.add_zero]
    have hszl := szF_le (L.drop i)
    refine At.seq ?_
    refine At.seq ?_
    refine At.region ?_
    refine AtL.move (.inl rfl) rfl rfl ?_
    refine AtL.lenL Tryd.underlying22 (.inl rfl) rfl rfl ?_
    refine AtL.move (.inl rfl) rfl rfl ?_
    refine AtL.sub (z := (L.length : Int) - (i : Int)) (.inl rfl) rfl rfl rfl (w64 (by omega) (by omega)) ?_
    refine AtL.geq (.inl rfl) rfl rfl rfl ?_
    refine AtL.done ?_
    refine At.cond rfl ?_ ?_
    · intro hc2
      have hc2 : 2 ≤ ((L.length : Int) - (i : Int)) := of_decide_eq_true hc2
      refine At.skip ?_
      refine At.block ?_
      refine At.seq ?_
      have hB12 := u8_le ((L.getD i 0))
      have hB13 := u8_le ((L.getD (i + 1) 0))
      refine At.draw (es := []) (pv := [(0, .slice A8 L.length C9), (1, .int .i64 (i : Int)), (2, .pointer (some (eaddr A8 (i * tyB.sz)))), (3, .int .u8 ((L.getD i 0).toNat : Int)), (4, .int .i64 ((L.getD i 0).toNat : Int)), (5, .int .i64 (256 * ((L.getD i 0).toNat : Int))), (6, .slice A8 L.length C9), (7, .int .i64 (i : Int)), (8, .int .i64 ((i : Int) + 1)), (9, .pointer (some (eaddr A8 ((i + 1) * tyB.sz)))), (10, .int .u8 ((L.getD (i + 1) 0).toNat : Int)), (11, .int .i64 ((L.getD (i + 1) 0).toNat : Int)), (12, .int .i64 ((256 * ((L.getD i 0).toNat : Int)) + ((L.getD (i + 1) 0).toNat : Int))), (13, .int .i64 ((256 * ((L.getD i 0).toNat : Int)) + ((L.getD (i + 1) 0).toNat : Int)))]) tf_mixed (by kernel_rfl) (by kernel_rfl) (by kernel_rfl) ?_
      refine ⟨⟨.inr ⟨_, rfl, rfl, .inl ⟨rfl, Do.move rfl⟩⟩, .inr ⟨_, rfl, rfl, .inl ⟨rfl, Do.move rfl⟩⟩, .inr ⟨_, rfl, rfl, .inl ⟨rfl, Do.indexL i (o11.rd (i := 2) rfl) Tryd.underlying22 tf_sz5 rfl rfl rfl (by omega)⟩⟩, .inr ⟨_, rfl, rfl, .inl ⟨rfl, Do.load (v := .int .u8 ((L.getD i 0).toNat : Int)) tf_flat5 rfl (Rd.cell0 (o11.rd (i := 2) rfl) (getD_some 0 (by omega)) rfl)⟩⟩, .inr ⟨_, rfl, rfl, .inl ⟨rfl, Do.convInt (z := ((L.getD i 0).toNat : Int)) Tryd.underlying5 Tryd.underlying3 rfl (u8_i64 _)⟩⟩, .inr ⟨_, rfl, rfl, .inl ⟨rfl, Do.mul (z := 256 * ((L.getD i 0).toNat : Int)) rfl rfl (w64 (by omega) (by omega))⟩⟩, .inr ⟨_, rfl, rfl, .inl ⟨rfl, Do.move rfl⟩⟩, .inr ⟨_, rfl, rfl, .inl ⟨rfl, Do.move rfl⟩⟩, .inr ⟨_, rfl, rfl, .inl ⟨rfl, Do.add (z := (i : Int) + 1) rfl rfl (w64 (by omega) (by omega))⟩⟩, .inr ⟨_, rfl, rfl, .inl ⟨rfl, Do.indexL (i + 1) (o11.rd (i := 2) rfl) Tryd.underlying22 tf_sz5 rfl rfl rfl (by omega)⟩⟩, .inr ⟨_, rfl, rfl, .inl ⟨rfl, Do.load (v := .int .u8 ((L.getD (i + 1) 0).toNat : Int)) tf_flat5 rfl (Rd.cell0 (o11.rd (i := 2) rfl) (getD_some 0 (by omega)) rfl)⟩⟩, .inr ⟨_, rfl, rfl, .inl ⟨rfl, Do.convInt (z := ((L.getD (i + 1) 0).toNat : Int)) Tryd.underlying5 Tryd.underlying3 rfl (u8_i64 _)⟩⟩, .inr ⟨_, rfl, rfl, .inl ⟨rfl, Do.add (z := (256 * ((L.getD i 0).toNat : Int)) + ((L.getD (i + 1) 0).toNat : Int)) rfl rfl (w64 (by omega) (by omega))⟩⟩, .inr ⟨_, rfl, rfl, .inl ⟨rfl, Do.assign rfl⟩⟩, trivial⟩, by kernel_rfl, ?_⟩
      refine At.mono (E' := [(0, .pointer (some ⟨b, 0, none⟩)), (6, .slice A8 L.length C9), (7, .slice x.A x.l.length x.C), (8, .int .i64 (i : Int)), (9, .int .i64 ((256 * ((L.getD i 0).toNat : Int)) + ((L.getD (i + 1) 0).toNat : Int)))]) ⟨rfl, rfl, rfl, rfl, rfl, trivial⟩ ?_
      refine At.seq ?_
      refine At.seq ?_
      refine At.region ?_
      refine AtL.move (.inl rfl) rfl rfl ?_
      refine AtL.lss (.inl rfl) rfl rfl rfl ?_
      refine AtL.move (.inl rfl) rfl rfl ?_
      refine AtL.join 7 (E' := [(49, .bool (decide ((((256 * ((L.getD i 0).toNat : Int)) + ((L.getD (i + 1) 0).toNat : Int)) < 12) ∨ (m < ((256 * ((L.getD i 0).toNat : Int)) + ((L.getD (i + 1) 0).toNat : Int)))))), (0, .pointer (some ⟨b, 0, none⟩)), (6, .slice A8 L.length C9), (7, .slice x.A x.l.length x.C), (8, .int .i64 (i : Int)), (9, .int .i64 ((256 * ((L.getD i 0).toNat : Int)) + ((L.getD (i + 1) 0).toNat : Int)))]) (H' := x.s :: segsOf ys :: s10 :: [(b, .cells #[.int .i64 m, .slice y.A y.l.length y.C, .bool out] 49 (0, 0))] :: H) (fun J => ?_) ?_
      · refine AtL.split (t := 42) rfl ?_ ?_
        · intro hs42
          have hs42 : ((256 * ((L.getD i 0).toNat : Int)) + ((L.getD (i + 1) 0).toNat : Int)) < 12 := of_decide_eq_true hs42
          refine AtL.skipped rfl rfl rfl rfl rfl rfl ?_
          refine AtL.skipped rfl rfl rfl rfl rfl rfl ?_
          refine AtL.skipped rfl rfl rfl rfl rfl rfl ?_
          refine AtL.skipped rfl rfl rfl rfl rfl rfl ?_
          refine AtL.skipped rfl rfl rfl rfl rfl rfl ?_
          refine AtL.skipped rfl rfl rfl rfl rfl rfl ?_
          refine AtL.pickT (.inl rfl) rfl rfl rfl ?_
          exact J _ (by exact ⟨(boolIs (by clear J; first | (simp [hs42]; done) | (simp_all; done) | grind)), rfl, rfl, rfl, rfl, rfl, trivial⟩)
        · intro hs42
          have hs42 : ¬ (((256 * ((L.getD i 0).toNat : Int)) + ((L.getD (i + 1) 0).toNat : Int)) < 12) := of_decide_eq_false hs42
          refine AtL.move (.inr ⟨_, _, _, rfl, rfl, rfl, rfl⟩) rfl rfl ?_
          refine AtL.move (.inr ⟨_, _, _, rfl, rfl, rfl, rfl⟩) rfl rfl ?_
          refine AtL.nilCheck (.inr ⟨_, _, _, rfl, rfl, rfl, rfl⟩) rfl rfl ?_
          refine AtL.fieldAddrB tf_fo49_0 (.inr ⟨_, _, _, rfl, rfl, rfl, rfl⟩) rfl rfl rfl ?_
          refine AtL.load tf_flat3 (.inr ⟨_, _, _, rfl, rfl, rfl, rfl⟩) rfl rfl (Cell.own 3 0 rfl rfl rfl) ?_
          refine AtL.gtr (.inr ⟨_, _, _, rfl, rfl, rfl, rfl⟩) rfl rfl rfl ?_
          refine AtL.pickF (.inl rfl) rfl rfl rfl ?_
          exact J _ (by exact ⟨(boolIs (by clear J; first | (simp [hs42]; done) | (simp_all; done) | grind)), rfl, rfl, rfl, rfl, rfl, trivial⟩)
      · skip
        refine AtL.done ?_
        refine At.cond rfl ?_ ?_
        · intro hc3
          have hc3 : (((256 * ((L.getD i 0).toNat : Int)) + ((L.getD (i + 1) 0).toNat : Int)) < 12) ∨ (m < ((256 * ((L.getD i 0).toNat : Int)) + ((L.getD (i + 1) 0).toNat : Int))) := of_decide_eq_true hc3
          refine At.seq ?_
          refine At.region ?_
          refine AtL.move (.inl rfl) rfl rfl ?_
          refine AtL.nilCheck (.inl rfl) rfl rfl ?_
          refine AtL.fieldAddrB tf_fo49_2 (.inl rfl) rfl rfl rfl ?_
          refine AtL.store (H' := x.s :: segsOf ys :: s10 :: [(b, .cells #[.int .i64 m, .slice y.A y.l.length y.C, .bool true] 49 (0, 0))] :: H) 3 0 tf_sz4 (.inl rfl) rfl rfl rfl rfl rfl rfl rfl rfl rfl ?_
          refine AtL.done ?_
          refine At.seq ?_
          refine At.region ?_
          refine AtL.move (.inl rfl) rfl rfl ?_
          refine AtL.nilCheck (.inl rfl) rfl rfl ?_
          refine AtL.fieldAddrB tf_fo49_1 (.inl rfl) rfl rfl rfl ?_
          refine AtL.store (H' := x.s :: segsOf ys :: s10 :: [(b, .cells #[.int .i64 m, .slice none 0 0, .bool true] 49 (0, 0))] :: H) 3 0 tf_sz22 (.inl rfl) rfl rfl rfl rfl rfl rfl rfl rfl rfl ?_
          refine AtL.done ?_
          refine At.seq ?_
          refine At.seq ?_
          refine At.region ?_
          refine AtL.move (.inl rfl) rfl rfl ?_
          refine AtL.lss (.inl rfl) rfl rfl rfl ?_
          refine AtL.done ?_
          refine At.cond rfl ?_ ?_
          · intro hc4
            have hc4 : ((256 * ((L.getD i 0).toNat : Int)) + ((L.getD (i + 1) 0).toNat : Int)) < 12 := of_decide_eq_true hc4
            refine At.seq ?_
            refine At.region ?_
            refine AtL.move (.inl rfl) rfl rfl ?_
            refine AtL.assign (.inl rfl) rfl rfl ?_
            refine AtL.assign (.inl rfl) rfl rfl ?_
            refine AtL.done ?_
            have hof : out = false := by simpa using hc1
            have hp : frP out m y.l l = frF m L := by rw [frP, if_neg (by simp [hof]), hL]
            have hS : frS m (L.drop i) = ⟨4, 0⟩ := by rw [frS, if_neg (by omega), if_pos (by omega)]
            have hM := frF_err (most := m) (c := L.drop i) (by rw [hS]; decide)
            rw [hS] at hM; dsimp only at hM; rw [hM] at hI hIe hIr; dsimp only at hI hIe hIr
            have hq : frB out m y.l l = true := by rw [frB, if_neg (by simp [hof]), ← hL, ← hIe]; rfl
            refine At.nil ?_
            refine At.pick (H' := x.s :: segsOf ys :: [] :: [(b, .cells #[.int .i64 m, .slice none 0 0, .bool true] 49 (0, 0))] :: H) [1, 2, 0, 4] 5 rfl rfl ?_
            rw [hp, hq, ← hI, ← hIe, ← hIr]
            exact At.ret Tryd.func24 rfl rfl (⟨x, ys, Sl.nil, hxy, by simp, rfl, rfl, rfl⟩)
          · intro hc4
            have hc4 : ¬ (((256 * ((L.getD i 0).toNat : Int)) + ((L.getD (i + 1) 0).toNat : Int)) < 12) := of_decide_eq_false hc4
            refine At.skip ?_
            refine At.seq ?_
            refine At.region ?_
            refine AtL.move (.inl rfl) rfl rfl ?_
            refine AtL.assign (.inl rfl) rfl rfl ?_
            refine AtL.assign (.inl rfl) rfl rfl ?_
            refine AtL.done ?_
            have hof : out = false := by simpa using hc1
            have hp : frP out m y.l l = frF m L := by rw [frP, if_neg (by simp [hof]), hL]
            have hS : frS m (L.drop i) = ⟨3, 0⟩ := by rw [frS, if_neg (by omega), if_neg (by omega), if_pos (by omega)]
            have hM := frF_err (most := m) (c := L.drop i) (by rw [hS]; decide)
            rw [hS] at hM; dsimp only at hM; rw [hM] at hI hIe hIr; dsimp only at hI hIe hIr
            have hq : frB out m y.l l = true := by rw [frB, if_neg (by simp [hof]), ← hL, ← hIe]; rfl
            refine At.nil ?_
            refine At.pick (H' := x.s :: segsOf ys :: [] :: [(b, .cells #[.int .i64 m, .slice none 0 0, .bool true] 49 (0, 0))] :: H) [1, 2, 0, 4] 5 rfl rfl ?_
            rw [hp, hq, ← hI, ← hIe, ← hIr]
            exact At.ret Tryd.func24 rfl rfl (⟨x, ys, Sl.nil, hxy, by simp, rfl, rfl, rfl⟩)
        · intro hc3
          have hc3 : ¬ ((((256 * ((L.getD i 0).toNat : Int)) + ((L.getD (i + 1) 0).toNat : Int)) < 12) ∨ (m < ((256 * ((L.getD i 0).toNat : Int)) + ((L.getD (i + 1) 0).toNat : Int)))) := of_decide_eq_false hc3
          refine At.skip ?_
          refine At.seq ?_
          refine At.seq ?_
          refine At.region ?_
          refine AtL.move (.inl rfl) rfl rfl ?_
          refine AtL.lenL Tryd.underlying22 (.inl rfl) rfl rfl ?_
          refine AtL.move (.inl rfl) rfl rfl ?_
          refine AtL.sub (z := (L.length : Int) - (i : Int)) (.inl rfl) rfl rfl rfl (w64 (by omega) (by omega)) ?_
          refine AtL.sub (z := ((L.length : Int) - (i : Int)) - 2) (.inl rfl) rfl rfl rfl (w64 (by omega) (by omega)) ?_
          refine AtL.move (.inl rfl) rfl rfl ?_
          refine AtL.lss (.inl rfl) rfl rfl rfl ?_
          refine AtL.done ?_
          refine At.cond rfl ?_ ?_
          · intro hc5
            have hc5 : (((L.length : Int) - (i : Int)) - 2) < ((256 * ((L.getD i 0).toNat : Int)) + ((L.getD (i + 1) 0).toNat : Int)) := of_decide_eq_true hc5
            refine At.exit rfl ?_
            refine At.seq ?_
            refine At.region ?_
            refine AtL.move (.inl rfl) rfl rfl ?_
            refine AtL.move (.inl rfl) rfl rfl ?_
            refine AtL.move (.inl rfl) rfl rfl ?_
            have hleo16 := Own.le_cap o11
            refine AtL.sliceO i L.length C9 o11 (evBound_some rfl rfl) rfl rfl (by intro h; cases h) (by omega) (by omega) (by omega) (Nat.le_refl _) Tryd.underlying22 tf_sz5 (.inl rfl) rfl rfl ?_
            intro A14 C15 o16
            clear hleo16
            have hlo16 : (subl L i L.length).length = L.length - i := subl_len (by omega)
            refine AtL.nilCheck (.inl rfl) rfl rfl ?_
            refine AtL.fieldAddrB tf_fo49_1 (.inl rfl) rfl rfl rfl ?_
            refine AtL.store (H' := x.s :: segsOf ys :: s10 :: [(b, .cells #[.int .i64 m, .slice A14 (subl L i L.length).length C15, .bool out] 49 (0, 0))] :: H) 3 0 tf_sz22 (.inl rfl) rfl rfl rfl rfl rfl rfl rfl rfl rfl ?_
            refine AtL.done ?_
            refine At.seq ?_
            refine At.region ?_
            refine AtL.move (.inl rfl) rfl rfl ?_
            refine AtL.assign (.inl rfl) rfl rfl ?_
            refine AtL.assign (.inl rfl) rfl rfl ?_
            refine AtL.done ?_
            have hof : out = false := by simpa using hc1
            have hp : frP out m y.l l = frF m L := by rw [frP, if_neg (by simp [hof]), hL]
            have hS : frS m (L.drop i) = ⟨0, 0⟩ := by rw [frS]; first | rw [if_pos (by omega)] | (rw [if_neg (by omega), if_neg (by omega), if_neg (by omega), if_pos (by omega)])
            have hM := frF_none (most := m) (c := L.drop i) (by rw [hS]) (by rw [hS])
            rw [hM] at hI hIe hIr; dsimp only at hI hIe hIr
            have hq : frB out m y.l l = false := by rw [frB, if_neg (by simp [hof]), ← hL, ← hIe]; rfl
            rw [hp, hq, ← hI, ← hIe, ← hIr]; subst hof
            exact At.ret Tryd.func24 rfl rfl (⟨x, ys, ⟨A14, C15, subl L i L.length, s10, o16⟩, hxy, by simp, subl_from _ _, rfl, rfl⟩)
          · intro hc5
            have hc5 : ¬ ((((L.length : Int) - (i : Int)) - 2) < ((256 * ((L.getD i 0).toNat : Int)) + ((L.getD (i + 1) 0).toNat : Int))) := of_decide_eq_false hc5
            refine At.skip ?_
            refine At.seq ?_
            refine At.region ?_
            refine AtL.move (.inl rfl) rfl rfl ?_
            refine AtL.buildSlice (cs := []) Tryd.underlying22 tf_zero5 tf_sz5 rfl rfl (.inl rfl) rfl rfl rfl ?_
            intro b17
            refine AtL.own1 tyB (l := ([] : List UInt8)) rfl rfl (by first | decide | simp) ?_
            intro s18 o19
            refine AtL.move (.inl rfl) rfl rfl ?_
            refine AtL.move (.inl rfl) rfl rfl ?_
            refine AtL.add (z := (i : Int) + 2) (.inl rfl) rfl rfl rfl (w64 (by omega) (by omega)) ?_
            refine AtL.move (.inl rfl) rfl rfl ?_
            refine AtL.add (z := (i : Int) + 2) (.inl rfl) rfl rfl rfl (w64 (by omega) (by omega)) ?_
            refine AtL.move (.inl rfl) rfl rfl ?_
            refine AtL.add (z := ((i : Int) + 2) + ((256 * ((L.getD i 0).toNat : Int)) + ((L.getD (i + 1) 0).toNat : Int))) (.inl rfl) rfl rfl rfl (w64 (by omega) (by omega)) ?_
            have hleo22 := Own.le_cap o11
            refine AtL.sliceO (i + 2) ((i + 2) + ((256 * ((L.getD i 0).toNat)) + ((L.getD (i + 1) 0).toNat))) C9 o11 (evBound_some rfl rfl) (evBound_some rfl rfl) rfl (by intro h; cases h) (by omega) (by omega) (by omega) (Nat.le_refl _) Tryd.underlying22 tf_sz5 (.inl rfl) rfl rfl ?_
            intro A20 C21 o22
            clear hleo22
            have hlo22 : (subl L (i + 2) ((i + 2) + ((256 * ((L.getD i 0).toNat)) + ((L.getD (i + 1) 0).toNat)))).length = ((i + 2) + ((256 * ((L.getD i 0).toNat)) + ((L.getD (i + 1) 0).toNat))) - (i + 2) := subl_len (by omega)
            refine AtL.append (l := []) (news := subl L (i + 2) ((i + 2) + ((256 * ((L.getD i 0).toNat)) + ((L.getD (i + 1) 0).toNat)))) 0 tf_el22 rfl o19 (o22.rd (i := 3) rfl) (by first | omega | (simp only [List.length_append, List.length_cons, List.length_nil]; omega) | (simp; done) | (simp; omega)) (.inl rfl) rfl rfl rfl ?_
            intro A23 C24 s25 o26
            refine AtL.buildSlice (cs := [.slice A23 ([] ++ (subl L (i + 2) ((i + 2) + ((256 * ((L.getD i 0).toNat)) + ((L.getD (i + 1) 0).toNat))))).length C24]) Tryd.underlying31 tf_zero22 tf_sz22 rfl rfl (.inl rfl) rfl rfl rfl ?_
            intro b27
            refine AtL.own1 tyL (l := ([(⟨A23, C24, [] ++ (subl L (i + 2) ((i + 2) + ((256 * ((L.getD i 0).toNat)) + ((L.getD (i + 1) 0).toNat))))⟩ : Bs)] : List Bs)) rfl rfl (by first | decide | simp) ?_
            intro s28 o29
            refine AtL.append (l := x.l) (news := [(⟨A23, C24, [] ++ (subl L (i + 2) ((i + 2) + ((256 * ((L.getD i 0).toNat)) + ((L.getD (i + 1) 0).toNat))))⟩ : Bs)]) 2 tf_el31 rfl x.own (o29.rd (i := 0) rfl) (by first | omega | (simp only [List.length_append, List.length_cons, List.length_nil]; omega) | (simp; done) | (simp; omega)) (.inl rfl) rfl rfl rfl ?_
            intro A30 C31 s32 o33
            refine AtL.assign (.inl rfl) rfl rfl ?_
            refine AtL.done ?_
            refine At.region ?_
            refine AtL.move (.inl rfl) rfl rfl ?_
            refine AtL.add (z := (i : Int) + 2) (.inl rfl) rfl rfl rfl (w64 (by omega) (by omega)) ?_
            refine AtL.move (.inl rfl) rfl rfl ?_
            refine AtL.add (z := ((i + 2 + szF (L.drop i) : Nat) : Int)) (.inl rfl) rfl rfl rfl (by rw [w64 (by omega) (by omega)]; omega) ?_
            refine AtL.assign (.inl rfl) rfl rfl ?_
            refine AtL.done ?_
            refine At.inBlock ?_
            refine At.pick (H' := s25 :: segsOf ys :: s28 :: s32 :: s10 :: [(b, .cells #[.int .i64 m, .slice y.A y.l.length y.C, .bool out] 49 (0, 0))] :: H) [1, 3, 0, 2, 4, 5] 6 rfl rfl ?_
            refine At.flat (flat_snoc ⟨A23, C24, [] ++ (subl L (i + 2) ((i + 2) + ((256 * ((L.getD i 0).toNat)) + ((L.getD (i + 1) 0).toNat)))), s25, o26⟩ ys _) ?_
            refine At.pick (H' := s32 :: segsOf (ys ++ [⟨A23, C24, [] ++ (subl L (i + 2) ((i + 2) + ((256 * ((L.getD i 0).toNat)) + ((L.getD (i + 1) 0).toNat)))), s25, o26⟩]) :: s10 :: [(b, .cells #[.int .i64 m, .slice y.A y.l.length y.C, .bool out] 49 (0, 0))] :: H) [2, 0, 3, 4] 5 rfl rfl ?_
            have hS : frS m (L.drop i) = ⟨0, szF (L.drop i)⟩ := by rw [frS, if_neg (by omega), if_neg (by omega), if_neg (by omega), if_neg (by omega)]
            have hM := frF_more (most := m) (c := L.drop i) (by rw [hS]; dsimp only; omega)
            rw [hS, List.drop_drop] at hM
            dsimp only at hM
            have hsub : subl (L.drop i) 2 (2 + szF (L.drop i)) = subl L (i + 2) ((i + 2) + ((256 * ((L.getD i 0).toNat)) + ((L.getD (i + 1) 0).toNat))) := by simp only [subl, List.drop_drop]; congr 1 <;> first | omega | (congr 1; omega)
            rw [show i + (2 + szF (L.drop i)) = i + 2 + szF (L.drop i) by omega] at hM
            refine ihL1 (i + 2 + szF (L.drop i)) (⟨A30, C31, x.l ++ ([(⟨A23, C24, [] ++ (subl L (i + 2) ((i + 2) + ((256 * ((L.getD i 0).toNat)) + ((L.getD (i + 1) 0).toNat))))⟩ : Bs)]), s32, o33⟩) (ys ++ [⟨A23, C24, [] ++ (subl L (i + 2) ((i + 2) + ((256 * ((L.getD i 0).toNat)) + ((L.getD (i + 1) 0).toNat)))), s25, o26⟩]) (⟨by rw [← hI, hM]; simp only [List.map_append, List.map_cons, List.map_nil, List.nil_append]; rw [hsub]; simp only [List.append_assoc, List.singleton_append], by rw [← hIe, hM], by rw [← hIr, hM], by omega, by simp; omega, by dsimp only; rw [hxy]; simp [Sl.v]⟩) (by omega) _ ?_
            exact ⟨rfl, (by first | rfl | exact slLen (by simp []) | exact intEq (by omega) | exact intEq (by simp []) | exact slLen (by simp []; omega)), (by first | rfl | exact slLen (by simp []) | exact intEq (by omega) | exact intEq (by simp []) | exact slLen (by simp []; omega)), (by first | rfl | exact slLen (by simp []) | exact intEq (by omega) | exact intEq (by simp []) | exact slLen (by simp []; omega)), trivial⟩
    · intro hc2
      have hc2 : ¬ (2 ≤ ((L.length : Int) - (i : Int))) := of_decide_eq_false hc2
      refine At.exit rfl ?_
      refine At.seq ?_
      refine At.region ?_
      refine AtL.move (.inl rfl) rfl rfl ?_
      refine AtL.move (.inl rfl) rfl rfl ?_
      refine AtL.move (.inl rfl) rfl rfl ?_
      have hleo36 := Own.le_cap o11
      refine AtL.sliceO i L.length C9 o11 (evBound_some rfl rfl) rfl rfl (by intro h; cases h) (by omega) (by omega) (by omega) (Nat.le_refl _) Tryd.underlying22 tf_sz5 (.inl rfl) rfl rfl ?_
      intro A34 C35 o36
      clear hleo36
      have hlo36 : (subl L i L.length).length = L.length - i := subl_len (by omega)
      refine AtL.nilCheck (.inl rfl) rfl rfl ?_
      refine AtL.fieldAddrB tf_fo49_1 (.inl rfl) rfl rfl rfl ?_
      refine AtL.store (H' := x.s :: segsOf ys :: s10 :: [(b, .cells #[.int .i64 m, .slice A34 (subl L i L.length).length C35, .bool out] 49 (0, 0))] :: H) 3 0 tf_sz22 (.inl rfl) rfl rfl rfl rfl rfl rfl rfl rfl rfl ?_
      refine AtL.done ?_
      refine At.seq ?_
      refine At.region ?_
      refine AtL.move (.inl rfl) rfl rfl ?_
      refine AtL.assign (.inl rfl) rfl rfl ?_
      refine AtL.assign (.inl rfl) rfl rfl ?_
      refine AtL.done ?_
      have hof : out = false := by simpa using hc1
      have hp : frP out m y.l l = frF m L := by rw [frP, if_neg (by simp [hof]), hL]
      have hS : frS m (L.drop i) = ⟨0, 0⟩ := by rw [frS]; first | rw [if_pos (by omega)] | (rw [if_neg (by omega), if_neg (by omega), if_neg (by omega), if_pos (by omega)])
      have hM := frF_none (most := m) (c := L.drop i) (by rw [hS]) (by rw [hS])
      rw [hM] at hI hIe hIr; dsimp only at hI hIe hIr
      have hq : frB out m y.l l = false := by rw [frB, if_neg (by simp [hof]), ← hL, ← hIe]; rfl
      rw [hp, hq, ← hI, ← hIe, ← hIr]; subst hof
      exact At.ret Tryd.func24 rfl rfl (⟨x, ys, ⟨A34, C35, subl L i L.length, s10, o36⟩, hxy, by simp, subl_from _ _, rfl, rfl⟩)

end Go.Proofs.YtllfgcekebafhaaDoor
