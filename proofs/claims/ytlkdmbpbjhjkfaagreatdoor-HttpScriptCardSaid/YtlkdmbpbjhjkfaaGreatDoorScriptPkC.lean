/- The parts of the proof that this law needs, in the order of their texts: the logic of walks, the plain laws, the walks. -/
import Derived.Test.YtlkdmbpbjhjkfaaGreatDoorScriptPkB
namespace Go.Proofs.YtlkdmbpbjhjkfaaGreatDoor
set_option linter.unusedVariables false
set_option linter.unusedSimpArgs false
set_option maxRecDepth 100000
set_option maxHeartbeats 400000 in
theorem slow_241 {w0 : World} {base : Nat} {H : List Seg} {A : Option Addr} {C : Nat} {l : List UInt8} (h : Rd tyB w0 base H A C l) (T : Tabs w0 base) (hl : l ≠ []) (hx : (Lib.firstT (l.getD 0 0).toNat : Int) = 241)  :
    SCalls Tryz.prog 225 [.slice A l.length C] w0 base (H) (fun v H' => ∃ (r : Int) (n : Nat), v = .tuple #[.int .i32 r, int (n : Int)] ∧ decOk l r n ∧ H' = H) := by
  have hpos := List.length_pos_iff.2 hl
  have hcap := h.cap
  have hle := h.le
  have hb0 := u8_le (l.getD 0 0)
  have hb1 := u8_le (l.getD 1 0)
  have hb2 := u8_le (l.getD 2 0)
  have hb3 := u8_le (l.getD 3 0)
  refine SCalls.of_walk (n := 122) Tryz.func225 rfl rfl rfl fun cs => ?_
  refine At.seq ?_
  refine At.region ?_
  refine AtL.assign (.inl rfl) rfl rfl ?_
  refine AtL.assign (.inl rfl) rfl rfl ?_
  refine AtL.done ?_
  refine At.seq ?_
  refine At.region ?_
  refine AtL.move (.inl rfl) rfl rfl ?_
  refine AtL.lenL Tryz.underlying22 (.inl rfl) rfl rfl ?_
  refine AtL.assign (.inl rfl) rfl rfl ?_
  refine AtL.done ?_
  refine At.seq ?_
  refine At.seq ?_
  refine At.region ?_
  refine AtL.move (.inl rfl) rfl rfl ?_
  refine AtL.lss (.inl rfl) rfl rfl rfl ?_
  refine AtL.done ?_
  refine At.condIs false rfl (decide_eq_false (by omega)) ?_
  refine At.skip ?_
  refine At.seq ?_
  refine At.region ?_
  refine AtL.move (.inl rfl) rfl rfl ?_
  refine AtL.indexL 0 h Tryz.underlying22 tf_sz5 (.inl rfl) rfl rfl rfl rfl (by omega) ?_
  refine AtL.load (v := .int .u8 ((l.getD 0 0).toNat : Int)) tf_flat5 (.inl rfl) rfl rfl (Rd.cell0 h (getD_some 0 (by omega)) rfl) ?_
  refine AtL.assign (.inl rfl) rfl rfl ?_
  refine AtL.done ?_
  refine At.seq ?_
  refine At.region ?_
  refine AtL.move (.inl rfl) rfl rfl ?_
  refine AtL.indexArr (a := ⟨4, 0, none⟩) ((l.getD 0 0).toNat) Tryz.underlying166 tf_sz5 (.inl rfl) rfl rfl rfl rfl (by omega) ?_
  refine AtL.load (v := .int .u8 241) tf_flat5 (.inl rfl) rfl rfl (T.one (l.getD 0 0) hx) ?_
  refine AtL.assign (.inl rfl) rfl rfl ?_
  refine AtL.done ?_
  refine At.seq ?_
  refine At.seq ?_
  refine At.region ?_
  refine AtL.move (.inl rfl) rfl rfl ?_
  refine AtL.geq (.inl rfl) rfl rfl rfl ?_
  refine AtL.done ?_
  refine At.condT rfl ?_
  refine At.seq ?_
  refine At.region ?_
  refine AtL.move (.inl rfl) rfl rfl ?_
  refine AtL.convInt (z := 241) Tryz.underlying5 Tryz.underlying21 (.inl rfl) rfl rfl (by decide) ?_
  refine AtL.shl (z := (-2147483648)) (.inl rfl) rfl rfl rfl (by decide) (by decide) ?_
  refine AtL.shr (z := (-1)) (.inl rfl) rfl rfl rfl (by decide) (by decide) ?_
  refine AtL.assign (.inl rfl) rfl rfl ?_
  refine AtL.done ?_
  refine At.seq ?_
  refine At.region ?_
  refine AtL.move (.inl rfl) rfl rfl ?_
  refine AtL.indexL 0 h Tryz.underlying22 tf_sz5 (.inl rfl) rfl rfl rfl rfl (by omega) ?_
  refine AtL.load (v := .int .u8 ((l.getD 0 0).toNat : Int)) tf_flat5 (.inl rfl) rfl rfl (Rd.cell0 h (getD_some 0 (by omega)) rfl) ?_
  have hB1 := u8_le ((l.getD 0 0))
  refine AtL.convInt (z := ((l.getD 0 0).toNat : Int)) Tryz.underlying5 Tryz.underlying21 (.inl rfl) rfl rfl (w32i (by omega) (by omega)) ?_
  refine AtL.move (.inl rfl) rfl rfl ?_
  refine AtL.bandnot (z := 0) (.inl rfl) rfl rfl rfl (andnot_ones _) ?_
  refine AtL.move (.inl rfl) rfl rfl ?_
  refine AtL.band (z := 65533) (.inl rfl) rfl rfl rfl (by decide) ?_
  refine AtL.bor (z := 65533) (.inl rfl) rfl rfl rfl (by decide) ?_
  refine AtL.assign (.inl rfl) rfl rfl ?_
  refine AtL.assign (.inl rfl) rfl rfl ?_
  refine AtL.done ?_
  exact At.ret Tryz.func225 rfl rfl (⟨_, 1, rfl, ⟨by omega, by omega, fun i h1 h2 => by omega, .inl rfl⟩, rfl⟩)
set_option maxHeartbeats 400000 in
theorem slow_2 {w0 : World} {base : Nat} {H : List Seg} {A : Option Addr} {C : Nat} {l : List UInt8} (h : Rd tyB w0 base H A C l) (T : Tabs w0 base) (hl : l ≠ []) (hx : (Lib.firstT (l.getD 0 0).toNat : Int) = 2) (hp : 194 ≤ (l.getD 0 0).toNat ∧ (l.getD 0 0).toNat < 224) :
    SCalls Tryz.prog 225 [.slice A l.length C] w0 base (H) (fun v H' => ∃ (r : Int) (n : Nat), v = .tuple #[.int .i32 r, int (n : Int)] ∧ decOk l r n ∧ H' = H) := by
  have hpos := List.length_pos_iff.2 hl
  have hcap := h.cap
  have hle := h.le
  have hb0 := u8_le (l.getD 0 0)
  have hb1 := u8_le (l.getD 1 0)
  have hb2 := u8_le (l.getD 2 0)
  have hb3 := u8_le (l.getD 3 0)
  refine SCalls.of_walk (n := 122) Tryz.func225 rfl rfl rfl fun cs => ?_
  refine At.seq ?_
  refine At.region ?_
  refine AtL.assign (.inl rfl) rfl rfl ?_
  refine AtL.assign (.inl rfl) rfl rfl ?_
  refine AtL.done ?_
  refine At.seq ?_
  refine At.region ?_
  refine AtL.move (.inl rfl) rfl rfl ?_
  refine AtL.lenL Tryz.underlying22 (.inl rfl) rfl rfl ?_
  refine AtL.assign (.inl rfl) rfl rfl ?_
  refine AtL.done ?_
  refine At.seq ?_
  refine At.seq ?_
  refine At.region ?_
  refine AtL.move (.inl rfl) rfl rfl ?_
  refine AtL.lss (.inl rfl) rfl rfl rfl ?_
  refine AtL.done ?_
  refine At.condIs false rfl (decide_eq_false (by omega)) ?_
  refine At.skip ?_
  refine At.seq ?_
  refine At.region ?_
  refine AtL.move (.inl rfl) rfl rfl ?_
  refine AtL.indexL 0 h Tryz.underlying22 tf_sz5 (.inl rfl) rfl rfl rfl rfl (by omega) ?_
  refine AtL.load (v := .int .u8 ((l.getD 0 0).toNat : Int)) tf_flat5 (.inl rfl) rfl rfl (Rd.cell0 h (getD_some 0 (by omega)) rfl) ?_
  refine AtL.assign (.inl rfl) rfl rfl ?_
  refine AtL.done ?_
  refine At.seq ?_
  refine At.region ?_
  refine AtL.move (.inl rfl) rfl rfl ?_
  refine AtL.indexArr (a := ⟨4, 0, none⟩) ((l.getD 0 0).toNat) Tryz.underlying166 tf_sz5 (.inl rfl) rfl rfl rfl rfl (by omega) ?_
  refine AtL.load (v := .int .u8 2) tf_flat5 (.inl rfl) rfl rfl (T.one (l.getD 0 0) hx) ?_
  refine AtL.assign (.inl rfl) rfl rfl ?_
  refine AtL.done ?_
  refine At.seq ?_
  refine At.seq ?_
  refine At.region ?_
  refine AtL.move (.inl rfl) rfl rfl ?_
  refine AtL.geq (.inl rfl) rfl rfl rfl ?_
  refine AtL.done ?_
  refine At.condF rfl ?_
  refine At.skip ?_
  refine At.seq ?_
  refine At.region ?_
  refine AtL.move (.inl rfl) rfl rfl ?_
  refine AtL.band (z := 2) (.inl rfl) rfl rfl rfl (by decide) ?_
  refine AtL.convInt (z := 2) Tryz.underlying5 Tryz.underlying3 (.inl rfl) rfl rfl (by decide) ?_
  refine AtL.assign (.inl rfl) rfl rfl ?_
  refine AtL.done ?_
  refine At.seq ?_
  refine At.region ?_
  refine AtL.move (.inl rfl) rfl rfl ?_
  refine AtL.shr (z := 0) (.inl rfl) rfl rfl rfl (by decide) (by decide) ?_
  refine AtL.indexArr (a := ⟨5, 0, none⟩) 0 Tryz.underlying253 tf_sz252 (.inl rfl) rfl rfl rfl rfl (by omega) ?_
  refine AtL.loadN (cs := [.int .u8 128, .int .u8 191]) tf_agg252 (.inl rfl) rfl rfl rfl (T.two 0 (by decide) (by decide) (by decide)) ?_
  refine AtL.alloc tf_zero252 (cs := #[.int .u8 0, .int .u8 0]) rfl (.inl rfl) rfl ?_
  intro b1
  refine AtL.store (H' := [(b1, .cells #[.int .u8 128, .int .u8 191] 252 (0, 0))] :: H) 0 0 tf_sz252 (.inl rfl) rfl rfl rfl rfl rfl rfl rfl rfl rfl ?_
  refine AtL.done ?_
  refine At.seq ?_
  refine At.seq ?_
  refine At.region ?_
  refine AtL.move (.inl rfl) rfl rfl ?_
  refine AtL.move (.inl rfl) rfl rfl ?_
  refine AtL.lss (.inl rfl) rfl rfl rfl ?_
  refine AtL.done ?_
  refine At.cond rfl ?_ ?_
  · intro hc3
    have hc3 : (l.length : Int) < 2 := of_decide_eq_true hc3
    refine At.seq ?_
    refine At.region ?_
    refine AtL.assign (.inl rfl) rfl rfl ?_
    refine AtL.assign (.inl rfl) rfl rfl ?_
    refine AtL.done ?_
    refine At.pick (H' := H) [] 1 rfl rfl ?_
    exact At.ret Tryz.func225 rfl rfl (⟨_, 1, rfl, ⟨by omega, by omega, fun i h1 h2 => by omega, .inl rfl⟩, rfl⟩)
  · intro hc3
    have hc3 : ¬ ((l.length : Int) < 2) := of_decide_eq_false hc3
    refine At.skip ?_
    refine At.seq ?_
    refine At.region ?_
    refine AtL.move (.inl rfl) rfl rfl ?_
    refine AtL.indexL 1 (Rd.skip 1 h) Tryz.underlying22 tf_sz5 (.inl rfl) rfl rfl rfl rfl (by omega) ?_
    refine AtL.load (v := .int .u8 ((l.getD 1 0).toNat : Int)) tf_flat5 (.inl rfl) rfl rfl (Rd.cell0 (Rd.skip 1 h) (getD_some 0 (by omega)) rfl) ?_
    refine AtL.assign (.inl rfl) rfl rfl ?_
    refine AtL.done ?_
    refine At.seq ?_
    refine At.seq ?_
    refine At.region ?_
    refine AtL.move (.inl rfl) rfl rfl ?_
    refine AtL.fieldAddrB tf_fo252_0 (.inl rfl) rfl rfl rfl ?_
    refine AtL.load tf_flat5 (.inl rfl) rfl rfl (Cell.own 0 0 rfl rfl rfl) ?_
    refine AtL.lss (.inl rfl) rfl rfl rfl ?_
    refine AtL.move (.inl rfl) rfl rfl ?_
    refine AtL.join 5 (E' := [(60, .bool (decide ((((l.getD 1 0).toNat : Int) < 128) ∨ (191 < ((l.getD 1 0).toNat : Int))))), (0, .slice A l.length C), (5, .int .u8 ((l.getD 0 0).toNat : Int)), (8, .int .i64 2), (10, .int .u8 ((l.getD 1 0).toNat : Int))]) (H' := [(b1, .cells #[.int .u8 128, .int .u8 191] 252 (0, 0))] :: H) (fun J => ?_) ?_
    · refine AtL.split (t := 55) rfl ?_ ?_
      · intro hs55
        have hs55 : ((l.getD 1 0).toNat : Int) < 128 := of_decide_eq_true hs55
        refine AtL.skipped rfl rfl rfl rfl rfl rfl ?_
        refine AtL.skipped rfl rfl rfl rfl rfl rfl ?_
        refine AtL.skipped rfl rfl rfl rfl rfl rfl ?_
        refine AtL.skipped rfl rfl rfl rfl rfl rfl ?_
        refine AtL.pickT (.inl rfl) rfl rfl rfl ?_
        exact J _ (by exact ⟨(boolIs (by clear J; first | (simp [hs55]; done) | (simp_all; done) | grind)), rfl, rfl, rfl, rfl, trivial⟩)
      · intro hs55
        have hs55 : ¬ (((l.getD 1 0).toNat : Int) < 128) := of_decide_eq_false hs55
        refine AtL.fieldAddrB tf_fo252_1 (.inr ⟨_, _, _, rfl, rfl, rfl, rfl⟩) rfl rfl rfl ?_
        refine AtL.load tf_flat5 (.inr ⟨_, _, _, rfl, rfl, rfl, rfl⟩) rfl rfl (Cell.own 0 0 rfl rfl rfl) ?_
        refine AtL.move (.inr ⟨_, _, _, rfl, rfl, rfl, rfl⟩) rfl rfl ?_
        refine AtL.lss (.inr ⟨_, _, _, rfl, rfl, rfl, rfl⟩) rfl rfl rfl ?_
        refine AtL.pickF (.inl rfl) rfl rfl rfl ?_
        exact J _ (by exact ⟨(boolIs (by clear J; first | (simp [hs55]; done) | (simp_all; done) | grind)), rfl, rfl, rfl, rfl, trivial⟩)
    · skip
      refine AtL.done ?_
      refine At.cond rfl ?_ ?_
      · intro hc4
        have hc4 : (((l.getD 1 0).toNat : Int) < 128) ∨ (191 < ((l.getD 1 0).toNat : Int)) := of_decide_eq_true hc4
        refine At.seq ?_
        refine At.region ?_
        refine AtL.assign (.inl rfl) rfl rfl ?_
        refine AtL.assign (.inl rfl) rfl rfl ?_
        refine AtL.done ?_
        refine At.pick (H' := H) [] 1 rfl rfl ?_
        exact At.ret Tryz.func225 rfl rfl (⟨_, 1, rfl, ⟨by omega, by omega, fun i h1 h2 => by omega, .inl rfl⟩, rfl⟩)
      · intro hc4
        have hc4 : ¬ ((((l.getD 1 0).toNat : Int) < 128) ∨ (191 < ((l.getD 1 0).toNat : Int))) := of_decide_eq_false hc4
        refine At.skip ?_
        refine At.seq ?_
        refine At.seq ?_
        refine At.region ?_
        refine AtL.move (.inl rfl) rfl rfl ?_
        refine AtL.leq (.inl rfl) rfl rfl rfl ?_
        refine AtL.done ?_
        refine At.condT rfl ?_
        refine At.seq ?_
        refine At.region ?_
        refine AtL.move (.inl rfl) rfl rfl ?_
        refine AtL.band (z := ((l.getD 0 0).toNat : Int) % 32) (.inl rfl) rfl rfl rfl (and8 5 (by decide) (by omega) (by omega)) ?_
        refine AtL.convInt (z := ((l.getD 0 0).toNat : Int) % 32) Tryz.underlying5 Tryz.underlying21 (.inl rfl) rfl rfl (w32i (by omega) (by omega)) ?_
        refine AtL.shl (z := (((l.getD 0 0).toNat : Int) % 32) * 64) (.inl rfl) rfl rfl rfl (by omega) (shl_eq32 _ _ 6 rfl (by decide) _ (by decide) (by omega) (by omega)) ?_
        refine AtL.move (.inl rfl) rfl rfl ?_
        refine AtL.band (z := ((l.getD 1 0).toNat : Int) % 64) (.inl rfl) rfl rfl rfl (and8 6 (by decide) (by omega) (by omega)) ?_
        refine AtL.convInt (z := ((l.getD 1 0).toNat : Int) % 64) Tryz.underlying5 Tryz.underlying21 (.inl rfl) rfl rfl (w32i (by omega) (by omega)) ?_
        obtain ⟨z2, hz2, hz2a, hz2b, hz2c⟩ := or32 (a := (((l.getD 0 0).toNat : Int) % 32) * 64) (b := ((l.getD 1 0).toNat : Int) % 64) 31 (by decide) (by omega) (by omega) (by omega) (by omega)
        refine AtL.bor (z := z2) (.inl rfl) rfl rfl rfl hz2 ?_
        refine AtL.assign (.inl rfl) rfl rfl ?_
        refine AtL.assign (.inl rfl) rfl rfl ?_
        refine AtL.done ?_
        refine At.pick (H' := H) [] 1 rfl rfl ?_
        exact At.ret Tryz.func225 rfl rfl (⟨_, 2, rfl, ⟨by omega, by omega, fun i h1 h2 => (by obtain rfl : i = 1 := (by omega); omega), .inr (.inl rfl)⟩, rfl⟩)
set_option maxHeartbeats 400000 in
theorem slow_19 {w0 : World} {base : Nat} {H : List Seg} {A : Option Addr} {C : Nat} {l : List UInt8} (h : Rd tyB w0 base H A C l) (T : Tabs w0 base) (hl : l ≠ []) (hx : (Lib.firstT (l.getD 0 0).toNat : Int) = 19) (hp : (l.getD 0 0).toNat = 224) :
    SCalls Tryz.prog 225 [.slice A l.length C] w0 base (H) (fun v H' => ∃ (r : Int) (n : Nat), v = .tuple #[.int .i32 r, int (n : Int)] ∧ decOk l r n ∧ H' = H) := by
  have hpos := List.length_pos_iff.2 hl
  have hcap := h.cap
  have hle := h.le
  have hb0 := u8_le (l.getD 0 0)
  have hb1 := u8_le (l.getD 1 0)
  have hb2 := u8_le (l.getD 2 0)
  have hb3 := u8_le (l.getD 3 0)
  refine SCalls.of_walk (n := 122) Tryz.func225 rfl rfl rfl fun cs => ?_
  refine At.seq ?_
  refine At.region ?_
  refine AtL.assign (.inl rfl) rfl rfl ?_
  refine AtL.assign (.inl rfl) rfl rfl ?_
  refine AtL.done ?_
  refine At.seq ?_
  refine At.region ?_
  refine AtL.move (.inl rfl) rfl rfl ?_
  refine AtL.lenL Tryz.underlying22 (.inl rfl) rfl rfl ?_
  refine AtL.assign (.inl rfl) rfl rfl ?_
  refine AtL.done ?_
  refine At.seq ?_
  refine At.seq ?_
  refine At.region ?_
  refine AtL.move (.inl rfl) rfl rfl ?_
  refine AtL.lss (.inl rfl) rfl rfl rfl ?_
  refine AtL.done ?_
  refine At.condIs false rfl (decide_eq_false (by omega)) ?_
  refine At.skip ?_
  refine At.seq ?_
  refine At.region ?_
  refine AtL.move (.inl rfl) rfl rfl ?_
  refine AtL.indexL 0 h Tryz.underlying22 tf_sz5 (.inl rfl) rfl rfl rfl rfl (by omega) ?_
  refine AtL.load (v := .int .u8 ((l.getD 0 0).toNat : Int)) tf_flat5 (.inl rfl) rfl rfl (Rd.cell0 h (getD_some 0 (by omega)) rfl) ?_
  refine AtL.assign (.inl rfl) rfl rfl ?_
  refine AtL.done ?_
  refine At.seq ?_
  refine At.region ?_
  refine AtL.move (.inl rfl) rfl rfl ?_
  refine AtL.indexArr (a := ⟨4, 0, none⟩) ((l.getD 0 0).toNat) Tryz.underlying166 tf_sz5 (.inl rfl) rfl rfl rfl rfl (by omega) ?_
  refine AtL.load (v := .int .u8 19) tf_flat5 (.inl rfl) rfl rfl (T.one (l.getD 0 0) hx) ?_
  refine AtL.assign (.inl rfl) rfl rfl ?_
  refine AtL.done ?_
  refine At.seq ?_
  refine At.seq ?_
  refine At.region ?_
  refine AtL.move (.inl rfl) rfl rfl ?_
  refine AtL.geq (.inl rfl) rfl rfl rfl ?_
  refine AtL.done ?_
  refine At.condF rfl ?_
  refine At.skip ?_
  refine At.seq ?_
  refine At.region ?_
  refine AtL.move (.inl rfl) rfl rfl ?_
  refine AtL.band (z := 3) (.inl rfl) rfl rfl rfl (by decide) ?_
  refine AtL.convInt (z := 3) Tryz.underlying5 Tryz.underlying3 (.inl rfl) rfl rfl (by decide) ?_
  refine AtL.assign (.inl rfl) rfl rfl ?_
  refine AtL.done ?_
  refine At.seq ?_
  refine At.region ?_
  refine AtL.move (.inl rfl) rfl rfl ?_
  refine AtL.shr (z := 1) (.inl rfl) rfl rfl rfl (by decide) (by decide) ?_
  refine AtL.indexArr (a := ⟨5, 0, none⟩) 1 Tryz.underlying253 tf_sz252 (.inl rfl) rfl rfl rfl rfl (by omega) ?_
  refine AtL.loadN (cs := [.int .u8 160, .int .u8 191]) tf_agg252 (.inl rfl) rfl rfl rfl (T.two 1 (by decide) (by decide) (by decide)) ?_
  refine AtL.alloc tf_zero252 (cs := #[.int .u8 0, .int .u8 0]) rfl (.inl rfl) rfl ?_
  intro b1
  refine AtL.store (H' := [(b1, .cells #[.int .u8 160, .int .u8 191] 252 (0, 0))] :: H) 0 0 tf_sz252 (.inl rfl) rfl rfl rfl rfl rfl rfl rfl rfl rfl ?_
  refine AtL.done ?_
  refine At.seq ?_
  refine At.seq ?_
  refine At.region ?_
  refine AtL.move (.inl rfl) rfl rfl ?_
  refine AtL.move (.inl rfl) rfl rfl ?_
  refine AtL.lss (.inl rfl) rfl rfl rfl ?_
  refine AtL.done ?_
  refine At.cond rfl ?_ ?_
  · intro hc3
    have hc3 : (l.length : Int) < 3 := of_decide_eq_true hc3
    refine At.seq ?_
    refine At.region ?_
    refine AtL.assign (.inl rfl) rfl rfl ?_
    refine AtL.assign (.inl rfl) rfl rfl ?_
    refine AtL.done ?_
    refine At.pick (H' := H) [] 1 rfl rfl ?_
    exact At.ret Tryz.func225 rfl rfl (⟨_, 1, rfl, ⟨by omega, by omega, fun i h1 h2 => by omega, .inl rfl⟩, rfl⟩)
  · intro hc3
    have hc3 : ¬ ((l.length : Int) < 3) := of_decide_eq_false hc3
    refine At.skip ?_
    refine At.seq ?_
    refine At.region ?_
    refine AtL.move (.inl rfl) rfl rfl ?_
    refine AtL.indexL 1 (Rd.skip 1 h) Tryz.underlying22 tf_sz5 (.inl rfl) rfl rfl rfl rfl (by omega) ?_
    refine AtL.load (v := .int .u8 ((l.getD 1 0).toNat : Int)) tf_flat5 (.inl rfl) rfl rfl (Rd.cell0 (Rd.skip 1 h) (getD_some 0 (by omega)) rfl) ?_
    refine AtL.assign (.inl rfl) rfl rfl ?_
    refine AtL.done ?_
    refine At.seq ?_
    refine At.seq ?_
    refine At.region ?_
    refine AtL.move (.inl rfl) rfl rfl ?_
    refine AtL.fieldAddrB tf_fo252_0 (.inl rfl) rfl rfl rfl ?_
    refine AtL.load tf_flat5 (.inl rfl) rfl rfl (Cell.own 0 0 rfl rfl rfl) ?_
    refine AtL.lss (.inl rfl) rfl rfl rfl ?_
    refine AtL.move (.inl rfl) rfl rfl ?_
    refine AtL.join 5 (E' := [(60, .bool (decide ((((l.getD 1 0).toNat : Int) < 160) ∨ (191 < ((l.getD 1 0).toNat : Int))))), (0, .slice A l.length C), (5, .int .u8 ((l.getD 0 0).toNat : Int)), (8, .int .i64 3), (10, .int .u8 ((l.getD 1 0).toNat : Int))]) (H' := [(b1, .cells #[.int .u8 160, .int .u8 191] 252 (0, 0))] :: H) (fun J => ?_) ?_
    · refine AtL.split (t := 55) rfl ?_ ?_
      · intro hs55
        have hs55 : ((l.getD 1 0).toNat : Int) < 160 := of_decide_eq_true hs55
        refine AtL.skipped rfl rfl rfl rfl rfl rfl ?_
        refine AtL.skipped rfl rfl rfl rfl rfl rfl ?_
        refine AtL.skipped rfl rfl rfl rfl rfl rfl ?_
        refine AtL.skipped rfl rfl rfl rfl rfl rfl ?_
        refine AtL.pickT (.inl rfl) rfl rfl rfl ?_
        exact J _ (by exact ⟨(boolIs (by clear J; first | (simp [hs55]; done) | (simp_all; done) | grind)), rfl, rfl, rfl, rfl, trivial⟩)
      · intro hs55
        have hs55 : ¬ (((l.getD 1 0).toNat : Int) < 160) := of_decide_eq_false hs55
        refine AtL.fieldAddrB tf_fo252_1 (.inr ⟨_, _, _, rfl, rfl, rfl, rfl⟩) rfl rfl rfl ?_
        refine AtL.load tf_flat5 (.inr ⟨_, _, _, rfl, rfl, rfl, rfl⟩) rfl rfl (Cell.own 0 0 rfl rfl rfl) ?_
        refine AtL.move (.inr ⟨_, _, _, rfl, rfl, rfl, rfl⟩) rfl rfl ?_
        refine AtL.lss (.inr ⟨_, _, _, rfl, rfl, rfl, rfl⟩) rfl rfl rfl ?_
        refine AtL.pickF (.inl rfl) rfl rfl rfl ?_
        exact J _ (by exact ⟨(boolIs (by clear J; first | (simp [hs55]; done) | (simp_all; done) | grind)), rfl, rfl, rfl, rfl, trivial⟩)
    · skip
      refine AtL.done ?_
      refine At.cond rfl ?_ ?_
      · intro hc4
        have hc4 : (((l.getD 1 0).toNat : Int) < 160) ∨ (191 < ((l.getD 1 0).toNat : Int)) := of_decide_eq_true hc4
        refine At.seq ?_
        refine At.region ?_
        refine AtL.assign (.inl rfl) rfl rfl ?_
        refine AtL.assign (.inl rfl) rfl rfl ?_
        refine AtL.done ?_
        refine At.pick (H' := H) [] 1 rfl rfl ?_
        exact At.ret Tryz.func225 rfl rfl (⟨_, 1, rfl, ⟨by omega, by omega, fun i h1 h2 => by omega, .inl rfl⟩, rfl⟩)
      · intro hc4
        have hc4 : ¬ ((((l.getD 1 0).toNat : Int) < 160) ∨ (191 < ((l.getD 1 0).toNat : Int))) := of_decide_eq_false hc4
        refine At.skip ?_
        refine At.seq ?_
        refine At.seq ?_
        refine At.region ?_
        refine AtL.move (.inl rfl) rfl rfl ?_
        refine AtL.leq (.inl rfl) rfl rfl rfl ?_
        refine AtL.done ?_
        refine At.condF rfl ?_
        refine At.skip ?_
        refine At.seq ?_
        refine At.region ?_
        refine AtL.move (.inl rfl) rfl rfl ?_
        refine AtL.indexL 2 (Rd.skip 1 h) Tryz.underlying22 tf_sz5 (.inl rfl) rfl rfl rfl rfl (by omega) ?_
        refine AtL.load (v := .int .u8 ((l.getD 2 0).toNat : Int)) tf_flat5 (.inl rfl) rfl rfl (Rd.cell0 (Rd.skip 1 h) (getD_some 0 (by omega)) rfl) ?_
        refine AtL.assign (.inl rfl) rfl rfl ?_
        refine AtL.done ?_
        refine At.seq ?_
        refine At.seq ?_
        refine At.region ?_
        refine AtL.move (.inl rfl) rfl rfl ?_
        refine AtL.lss (.inl rfl) rfl rfl rfl ?_
        refine AtL.move (.inl rfl) rfl rfl ?_
        refine AtL.join 3 (E' := [(79, .bool (decide ((((l.getD 2 0).toNat : Int) < 128) ∨ (191 < ((l.getD 2 0).toNat : Int))))), (0, .slice A l.length C), (5, .int .u8 ((l.getD 0 0).toNat : Int)), (8, .int .i64 3), (10, .int .u8 ((l.getD 1 0).toNat : Int)), (11, .int .u8 ((l.getD 2 0).toNat : Int))]) (H' := [(b1, .cells #[.int .u8 160, .int .u8 191] 252 (0, 0))] :: H) (fun J => ?_) ?_
        · refine AtL.split (t := 76) rfl ?_ ?_
          · intro hs76
            have hs76 : ((l.getD 2 0).toNat : Int) < 128 := of_decide_eq_true hs76
            refine AtL.skipped rfl rfl rfl rfl rfl rfl ?_
            refine AtL.skipped rfl rfl rfl rfl rfl rfl ?_
            refine AtL.pickT (.inl rfl) rfl rfl rfl ?_
            exact J _ (by exact ⟨(boolIs (by clear J; first | (simp [hs76]; done) | (simp_all; done) | grind)), rfl, rfl, rfl, rfl, rfl, trivial⟩)
          · intro hs76
            have hs76 : ¬ (((l.getD 2 0).toNat : Int) < 128) := of_decide_eq_false hs76
            refine AtL.move (.inr ⟨_, _, _, rfl, rfl, rfl, rfl⟩) rfl rfl ?_
            refine AtL.lss (.inr ⟨_, _, _, rfl, rfl, rfl, rfl⟩) rfl rfl rfl ?_
            refine AtL.pickF (.inl rfl) rfl rfl rfl ?_
            exact J _ (by exact ⟨(boolIs (by clear J; first | (simp [hs76]; done) | (simp_all; done) | grind)), rfl, rfl, rfl, rfl, rfl, trivial⟩)
        · skip
          refine AtL.done ?_
          refine At.cond rfl ?_ ?_
          · intro hc6
            have hc6 : (((l.getD 2 0).toNat : Int) < 128) ∨ (191 < ((l.getD 2 0).toNat : Int)) := of_decide_eq_true hc6
            refine At.seq ?_
            refine At.region ?_
            refine AtL.assign (.inl rfl) rfl rfl ?_
            refine AtL.assign (.inl rfl) rfl rfl ?_
            refine AtL.done ?_
            refine At.pick (H' := H) [] 1 rfl rfl ?_
            exact At.ret Tryz.func225 rfl rfl (⟨_, 1, rfl, ⟨by omega, by omega, fun i h1 h2 => by omega, .inl rfl⟩, rfl⟩)
          · intro hc6
            have hc6 : ¬ ((((l.getD 2 0).toNat : Int) < 128) ∨ (191 < ((l.getD 2 0).toNat : Int))) := of_decide_eq_false hc6
            refine At.skip ?_
            refine At.seq ?_
            refine At.seq ?_
            refine At.region ?_
            refine AtL.move (.inl rfl) rfl rfl ?_
            refine AtL.leq (.inl rfl) rfl rfl rfl ?_
            refine AtL.done ?_
            refine At.condT rfl ?_
            refine At.seq ?_
            refine At.region ?_
            refine AtL.move (.inl rfl) rfl rfl ?_
            refine AtL.band (z := ((l.getD 0 0).toNat : Int) % 16) (.inl rfl) rfl rfl rfl (and8 4 (by decide) (by omega) (by omega)) ?_
            refine AtL.convInt (z := ((l.getD 0 0).toNat : Int) % 16) Tryz.underlying5 Tryz.underlying21 (.inl rfl) rfl rfl (w32i (by omega) (by omega)) ?_
            refine AtL.shl (z := (((l.getD 0 0).toNat : Int) % 16) * 4096) (.inl rfl) rfl rfl rfl (by omega) (shl_eq32 _ _ 12 rfl (by decide) _ (by decide) (by omega) (by omega)) ?_
            refine AtL.move (.inl rfl) rfl rfl ?_
            refine AtL.band (z := ((l.getD 1 0).toNat : Int) % 64) (.inl rfl) rfl rfl rfl (and8 6 (by decide) (by omega) (by omega)) ?_
            refine AtL.convInt (z := ((l.getD 1 0).toNat : Int) % 64) Tryz.underlying5 Tryz.underlying21 (.inl rfl) rfl rfl (w32i (by omega) (by omega)) ?_
            refine AtL.shl (z := (((l.getD 1 0).toNat : Int) % 64) * 64) (.inl rfl) rfl rfl rfl (by omega) (shl_eq32 _ _ 6 rfl (by decide) _ (by decide) (by omega) (by omega)) ?_
            obtain ⟨z2, hz2, hz2a, hz2b, hz2c⟩ := or32 (a := (((l.getD 0 0).toNat : Int) % 16) * 4096) (b := (((l.getD 1 0).toNat : Int) % 64) * 64) 16 (by decide) (by omega) (by omega) (by omega) (by omega)
            refine AtL.bor (z := z2) (.inl rfl) rfl rfl rfl hz2 ?_
            refine AtL.move (.inl rfl) rfl rfl ?_
            refine AtL.band (z := ((l.getD 2 0).toNat : Int) % 64) (.inl rfl) rfl rfl rfl (and8 6 (by decide) (by omega) (by omega)) ?_
            refine AtL.convInt (z := ((l.getD 2 0).toNat : Int) % 64) Tryz.underlying5 Tryz.underlying21 (.inl rfl) rfl rfl (w32i (by omega) (by omega)) ?_
            obtain ⟨z3, hz3, hz3a, hz3b, hz3c⟩ := or32 (a := z2) (b := ((l.getD 2 0).toNat : Int) % 64) 16 (by decide) (by omega) (by omega) (by omega) (by omega)
            refine AtL.bor (z := z3) (.inl rfl) rfl rfl rfl hz3 ?_
            refine AtL.assign (.inl rfl) rfl rfl ?_
            refine AtL.assign (.inl rfl) rfl rfl ?_
            refine AtL.done ?_
            refine At.pick (H' := H) [] 1 rfl rfl ?_
            exact At.ret Tryz.func225 rfl rfl (⟨_, 3, rfl, ⟨by omega, by omega, fun i h1 h2 => (by rcases (show i = 1 ∨ i = 2 by omega) with rfl | rfl <;> omega), .inr (.inr (.inl ⟨rfl, by omega, by omega⟩))⟩, rfl⟩)
set_option maxHeartbeats 400000 in
theorem slow_3 {w0 : World} {base : Nat} {H : List Seg} {A : Option Addr} {C : Nat} {l : List UInt8} (h : Rd tyB w0 base H A C l) (T : Tabs w0 base) (hl : l ≠ []) (hx : (Lib.firstT (l.getD 0 0).toNat : Int) = 3) (hp : (225 ≤ (l.getD 0 0).toNat ∧ (l.getD 0 0).toNat < 240)) :
    SCalls Tryz.prog 225 [.slice A l.length C] w0 base (H) (fun v H' => ∃ (r : Int) (n : Nat), v = .tuple #[.int .i32 r, int (n : Int)] ∧ decOk l r n ∧ H' = H) := by
  have hpos := List.length_pos_iff.2 hl
  have hcap := h.cap
  have hle := h.le
  have hb0 := u8_le (l.getD 0 0)
  have hb1 := u8_le (l.getD 1 0)
  have hb2 := u8_le (l.getD 2 0)
  have hb3 := u8_le (l.getD 3 0)
  refine SCalls.of_walk (n := 122) Tryz.func225 rfl rfl rfl fun cs => ?_
  refine At.seq ?_
  refine At.region ?_
  refine AtL.assign (.inl rfl) rfl rfl ?_
  refine AtL.assign (.inl rfl) rfl rfl ?_
  refine AtL.done ?_
  refine At.seq ?_
  refine At.region ?_
  refine AtL.move (.inl rfl) rfl rfl ?_
  refine AtL.lenL Tryz.underlying22 (.inl rfl) rfl rfl ?_
  refine AtL.assign (.inl rfl) rfl rfl ?_
  refine AtL.done ?_
  refine At.seq ?_
  refine At.seq ?_
  refine At.region ?_
  refine AtL.move (.inl rfl) rfl rfl ?_
  refine AtL.lss (.inl rfl) rfl rfl rfl ?_
  refine AtL.done ?_
  refine At.condIs false rfl (decide_eq_false (by omega)) ?_
  refine At.skip ?_
  refine At.seq ?_
  refine At.region ?_
  refine AtL.move (.inl rfl) rfl rfl ?_
  refine AtL.indexL 0 h Tryz.underlying22 tf_sz5 (.inl rfl) rfl rfl rfl rfl (by omega) ?_
  refine AtL.load (v := .int .u8 ((l.getD 0 0).toNat : Int)) tf_flat5 (.inl rfl) rfl rfl (Rd.cell0 h (getD_some 0 (by omega)) rfl) ?_
  refine AtL.assign (.inl rfl) rfl rfl ?_
  refine AtL.done ?_
  refine At.seq ?_
  refine At.region ?_
  refine AtL.move (.inl rfl) rfl rfl ?_
  refine AtL.indexArr (a := ⟨4, 0, none⟩) ((l.getD 0 0).toNat) Tryz.underlying166 tf_sz5 (.inl rfl) rfl rfl rfl rfl (by omega) ?_
  refine AtL.load (v := .int .u8 3) tf_flat5 (.inl rfl) rfl rfl (T.one (l.getD 0 0) hx) ?_
  refine AtL.assign (.inl rfl) rfl rfl ?_
  refine AtL.done ?_
  refine At.seq ?_
  refine At.seq ?_
  refine At.region ?_
  refine AtL.move (.inl rfl) rfl rfl ?_
  refine AtL.geq (.inl rfl) rfl rfl rfl ?_
  refine AtL.done ?_
  refine At.condF rfl ?_
  refine At.skip ?_
  refine At.seq ?_
  refine At.region ?_
  refine AtL.move (.inl rfl) rfl rfl ?_
  refine AtL.band (z := 3) (.inl rfl) rfl rfl rfl (by decide) ?_
  refine AtL.convInt (z := 3) Tryz.underlying5 Tryz.underlying3 (.inl rfl) rfl rfl (by decide) ?_
  refine AtL.assign (.inl rfl) rfl rfl ?_
  refine AtL.done ?_
  refine At.seq ?_
  refine At.region ?_
  refine AtL.move (.inl rfl) rfl rfl ?_
  refine AtL.shr (z := 0) (.inl rfl) rfl rfl rfl (by decide) (by decide) ?_
  refine AtL.indexArr (a := ⟨5, 0, none⟩) 0 Tryz.underlying253 tf_sz252 (.inl rfl) rfl rfl rfl rfl (by omega) ?_
  refine AtL.loadN (cs := [.int .u8 128, .int .u8 191]) tf_agg252 (.inl rfl) rfl rfl rfl (T.two 0 (by decide) (by decide) (by decide)) ?_
  refine AtL.alloc tf_zero252 (cs := #[.int .u8 0, .int .u8 0]) rfl (.inl rfl) rfl ?_
  intro b1
  refine AtL.store (H' := [(b1, .cells #[.int .u8 128, .int .u8 191] 252 (0, 0))] :: H) 0 0 tf_sz252 (.inl rfl) rfl rfl rfl rfl rfl rfl rfl rfl rfl ?_
  refine AtL.done ?_
  refine At.seq ?_
  refine At.seq ?_
  refine At.region ?_
  refine AtL.move (.inl rfl) rfl rfl ?_
  refine AtL.move (.inl rfl) rfl rfl ?_
  refine AtL.lss (.inl rfl) rfl rfl rfl ?_
  refine AtL.done ?_
  refine At.cond rfl ?_ ?_
  · intro hc3
    have hc3 : (l.length : Int) < 3 := of_decide_eq_true hc3
    refine At.seq ?_
    refine At.region ?_
    refine AtL.assign (.inl rfl) rfl rfl ?_
    refine AtL.assign (.inl rfl) rfl rfl ?_
    refine AtL.done ?_
    refine At.pick (H' := H) [] 1 rfl rfl ?_
    exact At.ret Tryz.func225 rfl rfl (⟨_, 1, rfl, ⟨by omega, by omega, fun i h1 h2 => by omega, .inl rfl⟩, rfl⟩)
  · intro hc3
    have hc3 : ¬ ((l.length : Int) < 3) := of_decide_eq_false hc3
    refine At.skip ?_
    refine At.seq ?_
    refine At.region ?_
    refine AtL.move (.inl rfl) rfl rfl ?_
    refine AtL.indexL 1 (Rd.skip 1 h) Tryz.underlying22 tf_sz5 (.inl rfl) rfl rfl rfl rfl (by omega) ?_
    refine AtL.load (v := .int .u8 ((l.getD 1 0).toNat : Int)) tf_flat5 (.inl rfl) rfl rfl (Rd.cell0 (Rd.skip 1 h) (getD_some 0 (by omega)) rfl) ?_
    refine AtL.assign (.inl rfl) rfl rfl ?_
    refine AtL.done ?_
    refine At.seq ?_
    refine At.seq ?_
    refine At.region ?_
    refine AtL.move (.inl rfl) rfl rfl ?_
    refine AtL.fieldAddrB tf_fo252_0 (.inl rfl) rfl rfl rfl ?_
    refine AtL.load tf_flat5 (.inl rfl) rfl rfl (Cell.own 0 0 rfl rfl rfl) ?_
    refine AtL.lss (.inl rfl) rfl rfl rfl ?_
    refine AtL.move (.inl rfl) rfl rfl ?_
    refine AtL.join 5 (E' := [(60, .bool (decide ((((l.getD 1 0).toNat : Int) < 128) ∨ (191 < ((l.getD 1 0).toNat : Int))))), (0, .slice A l.length C), (5, .int .u8 ((l.getD 0 0).toNat : Int)), (8, .int .i64 3), (10, .int .u8 ((l.getD 1 0).toNat : Int))]) (H' := [(b1, .cells #[.int .u8 128, .int .u8 191] 252 (0, 0))] :: H) (fun J => ?_) ?_
    · refine AtL.split (t := 55) rfl ?_ ?_
      · intro hs55
        have hs55 : ((l.getD 1 0).toNat : Int) < 128 := of_decide_eq_true hs55
        refine AtL.skipped rfl rfl rfl rfl rfl rfl ?_
        refine AtL.skipped rfl rfl rfl rfl rfl rfl ?_
        refine AtL.skipped rfl rfl rfl rfl rfl rfl ?_
        refine AtL.skipped rfl rfl rfl rfl rfl rfl ?_
        refine AtL.pickT (.inl rfl) rfl rfl rfl ?_
        exact J _ (by exact ⟨(boolIs (by clear J; first | (simp [hs55]; done) | (simp_all; done) | grind)), rfl, rfl, rfl, rfl, trivial⟩)
      · intro hs55
        have hs55 : ¬ (((l.getD 1 0).toNat : Int) < 128) := of_decide_eq_false hs55
        refine AtL.fieldAddrB tf_fo252_1 (.inr ⟨_, _, _, rfl, rfl, rfl, rfl⟩) rfl rfl rfl ?_
        refine AtL.load tf_flat5 (.inr ⟨_, _, _, rfl, rfl, rfl, rfl⟩) rfl rfl (Cell.own 0 0 rfl rfl rfl) ?_
        refine AtL.move (.inr ⟨_, _, _, rfl, rfl, rfl, rfl⟩) rfl rfl ?_
        refine AtL.lss (.inr ⟨_, _, _, rfl, rfl, rfl, rfl⟩) rfl rfl rfl ?_
        refine AtL.pickF (.inl rfl) rfl rfl rfl ?_
        exact J _ (by exact ⟨(boolIs (by clear J; first | (simp [hs55]; done) | (simp_all; done) | grind)), rfl, rfl, rfl, rfl, trivial⟩)
    · skip
      refine AtL.done ?_
      refine At.cond rfl ?_ ?_
      · intro hc4
        have hc4 : (((l.getD 1 0).toNat : Int) < 128) ∨ (191 < ((l.getD 1 0).toNat : Int)) := of_decide_eq_true hc4
        refine At.seq ?_
        refine At.region ?_
        refine AtL.assign (.inl rfl) rfl rfl ?_
        refine AtL.assign (.inl rfl) rfl rfl ?_
        refine AtL.done ?_
        refine At.pick (H' := H) [] 1 rfl rfl ?_
        exact At.ret Tryz.func225 rfl rfl (⟨_, 1, rfl, ⟨by omega, by omega, fun i h1 h2 => by omega, .inl rfl⟩, rfl⟩)
      · intro hc4
        have hc4 : ¬ ((((l.getD 1 0).toNat : Int) < 128) ∨ (191 < ((l.getD 1 0).toNat : Int))) := of_decide_eq_false hc4
        refine At.skip ?_
        refine At.seq ?_
        refine At.seq ?_
        refine At.region ?_
        refine AtL.move (.inl rfl) rfl rfl ?_
        refine AtL.leq (.inl rfl) rfl rfl rfl ?_
        refine AtL.done ?_
        refine At.condF rfl ?_
        refine At.skip ?_
        refine At.seq ?_
        refine At.region ?_
        refine AtL.move (.inl rfl) rfl rfl ?_
        refine AtL.indexL 2 (Rd.skip 1 h) Tryz.underlying22 tf_sz5 (.inl rfl) rfl rfl rfl rfl (by omega) ?_
        refine AtL.load (v := .int .u8 ((l.getD 2 0).toNat : Int)) tf_flat5 (.inl rfl) rfl rfl (Rd.cell0 (Rd.skip 1 h) (getD_some 0 (by omega)) rfl) ?_
        refine AtL.assign (.inl rfl) rfl rfl ?_
        refine AtL.done ?_
        refine At.seq ?_
        refine At.seq ?_
        refine At.region ?_
        refine AtL.move (.inl rfl) rfl rfl ?_
        refine AtL.lss (.inl rfl) rfl rfl rfl ?_
        refine AtL.move (.inl rfl) rfl rfl ?_
        refine AtL.join 3 (E' := [(79, .bool (decide ((((l.getD 2 0).toNat : Int) < 128) ∨ (191 < ((l.getD 2 0).toNat : Int))))), (0, .slice A l.length C), (5, .int .u8 ((l.getD 0 0).toNat : Int)), (8, .int .i64 3), (10, .int .u8 ((l.getD 1 0).toNat : Int)), (11, .int .u8 ((l.getD 2 0).toNat : Int))]) (H' := [(b1, .cells #[.int .u8 128, .int .u8 191] 252 (0, 0))] :: H) (fun J => ?_) ?_
        · refine AtL.split (t := 76) rfl ?_ ?_
          · intro hs76
            have hs76 : ((l.getD 2 0).toNat : Int) < 128 := of_decide_eq_true hs76
            refine AtL.skipped rfl rfl rfl rfl rfl rfl ?_
            refine AtL.skipped rfl rfl rfl rfl rfl rfl ?_
            refine AtL.pickT (.inl rfl) rfl rfl rfl ?_
            exact J _ (by exact ⟨(boolIs (by clear J; first | (simp [hs76]; done) | (simp_all; done) | grind)), rfl, rfl, rfl, rfl, rfl, trivial⟩)
          · intro hs76
            have hs76 : ¬ (((l.getD 2 0).toNat : Int) < 128) := of_decide_eq_false hs76
            refine AtL.move (.inr ⟨_, _, _, rfl, rfl, rfl, rfl⟩) rfl rfl ?_
            refine AtL.lss (.inr ⟨_, _, _, rfl, rfl, rfl, rfl⟩) rfl rfl rfl ?_
            refine AtL.pickF (.inl rfl) rfl rfl rfl ?_
            exact J _ (by exact ⟨(boolIs (by clear J; first | (simp [hs76]; done) | (simp_all; done) | grind)), rfl, rfl, rfl, rfl, rfl, trivial⟩)
        · skip
          refine AtL.done ?_
          refine At.cond rfl ?_ ?_
          · intro hc6
            have hc6 : (((l.getD 2 0).toNat : Int) < 128) ∨ (191 < ((l.getD 2 0).toNat : Int)) := of_decide_eq_true hc6
            refine At.seq ?_
            refine At.region ?_
            refine AtL.assign (.inl rfl) rfl rfl ?_
            refine AtL.assign (.inl rfl) rfl rfl ?_
            refine AtL.done ?_
            refine At.pick (H' := H) [] 1 rfl rfl ?_
            exact At.ret Tryz.func225 rfl rfl (⟨_, 1, rfl, ⟨by omega, by omega, fun i h1 h2 => by omega, .inl rfl⟩, rfl⟩)
          · intro hc6
            have hc6 : ¬ ((((l.getD 2 0).toNat : Int) < 128) ∨ (191 < ((l.getD 2 0).toNat : Int))) := of_decide_eq_false hc6
            refine At.skip ?_
            refine At.seq ?_
            refine At.seq ?_
            refine At.region ?_
            refine AtL.move (.inl rfl) rfl rfl ?_
            refine AtL.leq (.inl rfl) rfl rfl rfl ?_
            refine AtL.done ?_
            refine At.condT rfl ?_
            refine At.seq ?_
            refine At.region ?_
            refine AtL.move (.inl rfl) rfl rfl ?_
            refine AtL.band (z := ((l.getD 0 0).toNat : Int) % 16) (.inl rfl) rfl rfl rfl (and8 4 (by decide) (by omega) (by omega)) ?_
            refine AtL.convInt (z := ((l.getD 0 0).toNat : Int) % 16) Tryz.underlying5 Tryz.underlying21 (.inl rfl) rfl rfl (w32i (by omega) (by omega)) ?_
            refine AtL.shl (z := (((l.getD 0 0).toNat : Int) % 16) * 4096) (.inl rfl) rfl rfl rfl (by omega) (shl_eq32 _ _ 12 rfl (by decide) _ (by decide) (by omega) (by omega)) ?_
            refine AtL.move (.inl rfl) rfl rfl ?_
            refine AtL.band (z := ((l.getD 1 0).toNat : Int) % 64) (.inl rfl) rfl rfl rfl (and8 6 (by decide) (by omega) (by omega)) ?_
            refine AtL.convInt (z := ((l.getD 1 0).toNat : Int) % 64) Tryz.underlying5 Tryz.underlying21 (.inl rfl) rfl rfl (w32i (by omega) (by omega)) ?_
            refine AtL.shl (z := (((l.getD 1 0).toNat : Int) % 64) * 64) (.inl rfl) rfl rfl rfl (by omega) (shl_eq32 _ _ 6 rfl (by decide) _ (by decide) (by omega) (by omega)) ?_
            obtain ⟨z2, hz2, hz2a, hz2b, hz2c⟩ := or32 (a := (((l.getD 0 0).toNat : Int) % 16) * 4096) (b := (((l.getD 1 0).toNat : Int) % 64) * 64) 16 (by decide) (by omega) (by omega) (by omega) (by omega)
            refine AtL.bor (z := z2) (.inl rfl) rfl rfl rfl hz2 ?_
            refine AtL.move (.inl rfl) rfl rfl ?_
            refine AtL.band (z := ((l.getD 2 0).toNat : Int) % 64) (.inl rfl) rfl rfl rfl (and8 6 (by decide) (by omega) (by omega)) ?_
            refine AtL.convInt (z := ((l.getD 2 0).toNat : Int) % 64) Tryz.underlying5 Tryz.underlying21 (.inl rfl) rfl rfl (w32i (by omega) (by omega)) ?_
            obtain ⟨z3, hz3, hz3a, hz3b, hz3c⟩ := or32 (a := z2) (b := ((l.getD 2 0).toNat : Int) % 64) 16 (by decide) (by omega) (by omega) (by omega) (by omega)
            refine AtL.bor (z := z3) (.inl rfl) rfl rfl rfl hz3 ?_
            refine AtL.assign (.inl rfl) rfl rfl ?_
            refine AtL.assign (.inl rfl) rfl rfl ?_
            refine AtL.done ?_
            refine At.pick (H' := H) [] 1 rfl rfl ?_
            exact At.ret Tryz.func225 rfl rfl (⟨_, 3, rfl, ⟨by omega, by omega, fun i h1 h2 => (by rcases (show i = 1 ∨ i = 2 by omega) with rfl | rfl <;> omega), .inr (.inr (.inl ⟨rfl, by omega, by omega⟩))⟩, rfl⟩)
set_option maxHeartbeats 400000 in
theorem slow_35 {w0 : World} {base : Nat} {H : List Seg} {A : Option Addr} {C : Nat} {l : List UInt8} (h : Rd tyB w0 base H A C l) (T : Tabs w0 base) (hl : l ≠ []) (hx : (Lib.firstT (l.getD 0 0).toNat : Int) = 35) (hp : (l.getD 0 0).toNat = 237) :
    SCalls Tryz.prog 225 [.slice A l.length C] w0 base (H) (fun v H' => ∃ (r : Int) (n : Nat), v = .tuple #[.int .i32 r, int (n : Int)] ∧ decOk l r n ∧ H' = H) := by
  have hpos := List.length_pos_iff.2 hl
  have hcap := h.cap
  have hle := h.le
  have hb0 := u8_le (l.getD 0 0)
  have hb1 := u8_le (l.getD 1 0)
  have hb2 := u8_le (l.getD 2 0)
  have hb3 := u8_le (l.getD 3 0)
  refine SCalls.of_walk (n := 122) Tryz.func225 rfl rfl rfl fun cs => ?_
  refine At.seq ?_
  refine At.region ?_
  refine AtL.assign (.inl rfl) rfl rfl ?_
  refine AtL.assign (.inl rfl) rfl rfl ?_
  refine AtL.done ?_
  refine At.seq ?_
  refine At.region ?_
  refine AtL.move (.inl rfl) rfl rfl ?_
  refine AtL.lenL Tryz.underlying22 (.inl rfl) rfl rfl ?_
  refine AtL.assign (.inl rfl) rfl rfl ?_
  refine AtL.done ?_
  refine At.seq ?_
  refine At.seq ?_
  refine At.region ?_
  refine AtL.move (.inl rfl) rfl rfl ?_
  refine AtL.lss (.inl rfl) rfl rfl rfl ?_
  refine AtL.done ?_
  refine At.condIs false rfl (decide_eq_false (by omega)) ?_
  refine At.skip ?_
  refine At.seq ?_
  refine At.region ?_
  refine AtL.move (.inl rfl) rfl rfl ?_
  refine AtL.indexL 0 h Tryz.underlying22 tf_sz5 (.inl rfl) rfl rfl rfl rfl (by omega) ?_
  refine AtL.load (v := .int .u8 ((l.getD 0 0).toNat : Int)) tf_flat5 (.inl rfl) rfl rfl (Rd.cell0 h (getD_some 0 (by omega)) rfl) ?_
  refine AtL.assign (.inl rfl) rfl rfl ?_
  refine AtL.done ?_
  refine At.seq ?_
  refine At.region ?_
  refine AtL.move (.inl rfl) rfl rfl ?_
  refine AtL.indexArr (a := ⟨4, 0, none⟩) ((l.getD 0 0).toNat) Tryz.underlying166 tf_sz5 (.inl rfl) rfl rfl rfl rfl (by omega) ?_
  refine AtL.load (v := .int .u8 35) tf_flat5 (.inl rfl) rfl rfl (T.one (l.getD 0 0) hx) ?_
  refine AtL.assign (.inl rfl) rfl rfl ?_
  refine AtL.done ?_
  refine At.seq ?_
  refine At.seq ?_
  refine At.region ?_
  refine AtL.move (.inl rfl) rfl rfl ?_
  refine AtL.geq (.inl rfl) rfl rfl rfl ?_
  refine AtL.done ?_
  refine At.condF rfl ?_
  refine At.skip ?_
  refine At.seq ?_
  refine At.region ?_
  refine AtL.move (.inl rfl) rfl rfl ?_
  refine AtL.band (z := 3) (.inl rfl) rfl rfl rfl (by decide) ?_
  refine AtL.convInt (z := 3) Tryz.underlying5 Tryz.underlying3 (.inl rfl) rfl rfl (by decide) ?_
  refine AtL.assign (.inl rfl) rfl rfl ?_
  refine AtL.done ?_
  refine At.seq ?_
  refine At.region ?_
  refine AtL.move (.inl rfl) rfl rfl ?_
  refine AtL.shr (z := 2) (.inl rfl) rfl rfl rfl (by decide) (by decide) ?_
  refine AtL.indexArr (a := ⟨5, 0, none⟩) 2 Tryz.underlying253 tf_sz252 (.inl rfl) rfl rfl rfl rfl (by omega) ?_
  refine AtL.loadN (cs := [.int .u8 128, .int .u8 159]) tf_agg252 (.inl rfl) rfl rfl rfl (T.two 2 (by decide) (by decide) (by decide)) ?_
  refine AtL.alloc tf_zero252 (cs := #[.int .u8 0, .int .u8 0]) rfl (.inl rfl) rfl ?_
  intro b1
  refine AtL.store (H' := [(b1, .cells #[.int .u8 128, .int .u8 159] 252 (0, 0))] :: H) 0 0 tf_sz252 (.inl rfl) rfl rfl rfl rfl rfl rfl rfl rfl rfl ?_
  refine AtL.done ?_
  refine At.seq ?_
  refine At.seq ?_
  refine At.region ?_
  refine AtL.move (.inl rfl) rfl rfl ?_
  refine AtL.move (.inl rfl) rfl rfl ?_
  refine AtL.lss (.inl rfl) rfl rfl rfl ?_
  refine AtL.done ?_
  refine At.cond rfl ?_ ?_
  · intro hc3
    have hc3 : (l.length : Int) < 3 := of_decide_eq_true hc3
    refine At.seq ?_
    refine At.region ?_
    refine AtL.assign (.inl rfl) rfl rfl ?_
    refine AtL.assign (.inl rfl) rfl rfl ?_
    refine AtL.done ?_
    refine At.pick (H' := H) [] 1 rfl rfl ?_
    exact At.ret Tryz.func225 rfl rfl (⟨_, 1, rfl, ⟨by omega, by omega, fun i h1 h2 => by omega, .inl rfl⟩, rfl⟩)
  · intro hc3
    have hc3 : ¬ ((l.length : Int) < 3) := of_decide_eq_false hc3
    refine At.skip ?_
    refine At.seq ?_
    refine At.region ?_
    refine AtL.move (.inl rfl) rfl rfl ?_
    refine AtL.indexL 1 (Rd.skip 1 h) Tryz.underlying22 tf_sz5 (.inl rfl) rfl rfl rfl rfl (by omega) ?_
    refine AtL.load (v := .int .u8 ((l.getD 1 0).toNat : Int)) tf_flat5 (.inl rfl) rfl rfl (Rd.cell0 (Rd.skip 1 h) (getD_some 0 (by omega)) rfl) ?_
    refine AtL.assign (.inl rfl) rfl rfl ?_
    refine AtL.done ?_
    refine At.seq ?_
    refine At.seq ?_
    refine At.region ?_
    refine AtL.move (.inl rfl) rfl rfl ?_
    refine AtL.fieldAddrB tf_fo252_0 (.inl rfl) rfl rfl rfl ?_
    refine AtL.load tf_flat5 (.inl rfl) rfl rfl (Cell.own 0 0 rfl rfl rfl) ?_
    refine AtL.lss (.inl rfl) rfl rfl rfl ?_
    refine AtL.move (.inl rfl) rfl rfl ?_
    refine AtL.join 5 (E' := [(60, .bool (decide ((((l.getD 1 0).toNat : Int) < 128) ∨ (159 < ((l.getD 1 0).toNat : Int))))), (0, .slice A l.length C), (5, .int .u8 ((l.getD 0 0).toNat : Int)), (8, .int .i64 3), (10, .int .u8 ((l.getD 1 0).toNat : Int))]) (H' := [(b1, .cells #[.int .u8 128, .int .u8 159] 252 (0, 0))] :: H) (fun J => ?_) ?_
    · refine AtL.split (t := 55) rfl ?_ ?_
      · intro hs55
        have hs55 : ((l.getD 1 0).toNat : Int) < 128 := of_decide_eq_true hs55
        refine AtL.skipped rfl rfl rfl rfl rfl rfl ?_
        refine AtL.skipped rfl rfl rfl rfl rfl rfl ?_
        refine AtL.skipped rfl rfl rfl rfl rfl rfl ?_
        refine AtL.skipped rfl rfl rfl rfl rfl rfl ?_
        refine AtL.pickT (.inl rfl) rfl rfl rfl ?_
        exact J _ (by exact ⟨(boolIs (by clear J; first | (simp [hs55]; done) | (simp_all; done) | grind)), rfl, rfl, rfl, rfl, trivial⟩)
      · intro hs55
        have hs55 : ¬ (((l.getD 1 0).toNat : Int) < 128) := of_decide_eq_false hs55
        refine AtL.fieldAddrB tf_fo252_1 (.inr ⟨_, _, _, rfl, rfl, rfl, rfl⟩) rfl rfl rfl ?_
        refine AtL.load tf_flat5 (.inr ⟨_, _, _, rfl, rfl, rfl, rfl⟩) rfl rfl (Cell.own 0 0 rfl rfl rfl) ?_
        refine AtL.move (.inr ⟨_, _, _, rfl, rfl, rfl, rfl⟩) rfl rfl ?_
        refine AtL.lss (.inr ⟨_, _, _, rfl, rfl, rfl, rfl⟩) rfl rfl rfl ?_
        refine AtL.pickF (.inl rfl) rfl rfl rfl ?_
        exact J _ (by exact ⟨(boolIs (by clear J; first | (simp [hs55]; done) | (simp_all; done) | grind)), rfl, rfl, rfl, rfl, trivial⟩)
    · skip
      refine AtL.done ?_
      refine At.cond rfl ?_ ?_
      · intro hc4
        have hc4 : (((l.getD 1 0).toNat : Int) < 128) ∨ (159 < ((l.getD 1 0).toNat : Int)) := of_decide_eq_true hc4
        refine At.seq ?_
        refine At.region ?_
        refine AtL.assign (.inl rfl) rfl rfl ?_
        refine AtL.assign (.inl rfl) rfl rfl ?_
        refine AtL.done ?_
        refine At.pick (H' := H) [] 1 rfl rfl ?_
        exact At.ret Tryz.func225 rfl rfl (⟨_, 1, rfl, ⟨by omega, by omega, fun i h1 h2 => by omega, .inl rfl⟩, rfl⟩)
      · intro hc4
        have hc4 : ¬ ((((l.getD 1 0).toNat : Int) < 128) ∨ (159 < ((l.getD 1 0).toNat : Int))) := of_decide_eq_false hc4
        refine At.skip ?_
        refine At.seq ?_
        refine At.seq ?_
        refine At.region ?_
        refine AtL.move (.inl rfl) rfl rfl ?_
        refine AtL.leq (.inl rfl) rfl rfl rfl ?_
        refine AtL.done ?_
        refine At.condF rfl ?_
        refine At.skip ?_
        refine At.seq ?_
        refine At.region ?_
        refine AtL.move (.inl rfl) rfl rfl ?_
        refine AtL.indexL 2 (Rd.skip 1 h) Tryz.underlying22 tf_sz5 (.inl rfl) rfl rfl rfl rfl (by omega) ?_
        refine AtL.load (v := .int .u8 ((l.getD 2 0).toNat : Int)) tf_flat5 (.inl rfl) rfl rfl (Rd.cell0 (Rd.skip 1 h) (getD_some 0 (by omega)) rfl) ?_
        refine AtL.assign (.inl rfl) rfl rfl ?_
        refine AtL.done ?_
        refine At.seq ?_
        refine At.seq ?_
        refine At.region ?_
        refine AtL.move (.inl rfl) rfl rfl ?_
        refine AtL.lss (.inl rfl) rfl rfl rfl ?_
        refine AtL.move (.inl rfl) rfl rfl ?_
        refine AtL.join 3 (E' := [(79, .bool (decide ((((l.getD 2 0).toNat : Int) < 128) ∨ (191 < ((l.getD 2 0).toNat : Int))))), (0, .slice A l.length C), (5, .int .u8 ((l.getD 0 0).toNat : Int)), (8, .int .i64 3), (10, .int .u8 ((l.getD 1 0).toNat : Int)), (11, .int .u8 ((l.getD 2 0).toNat : Int))]) (H' := [(b1, .cells #[.int .u8 128, .int .u8 159] 252 (0, 0))] :: H) (fun J => ?_) ?_
        · refine AtL.split (t := 76) rfl ?_ ?_
          · intro hs76
            have hs76 : ((l.getD 2 0).toNat : Int) < 128 := of_decide_eq_true hs76
            refine AtL.skipped rfl rfl rfl rfl rfl rfl ?_
            refine AtL.skipped rfl rfl rfl rfl rfl rfl ?_
            refine AtL.pickT (.inl rfl) rfl rfl rfl ?_
            exact J _ (by exact ⟨(boolIs (by clear J; first | (simp [hs76]; done) | (simp_all; done) | grind)), rfl, rfl, rfl, rfl, rfl, trivial⟩)
          · intro hs76
            have hs76 : ¬ (((l.getD 2 0).toNat : Int) < 128) := of_decide_eq_false hs76
            refine AtL.move (.inr ⟨_, _, _, rfl, rfl, rfl, rfl⟩) rfl rfl ?_
            refine AtL.lss (.inr ⟨_, _, _, rfl, rfl, rfl, rfl⟩) rfl rfl rfl ?_
            refine AtL.pickF (.inl rfl) rfl rfl rfl ?_
            exact J _ (by exact ⟨(boolIs (by clear J; first | (simp [hs76]; done) | (simp_all; done) | grind)), rfl, rfl, rfl, rfl, rfl, trivial⟩)
        · skip
          refine AtL.done ?_
          refine At.cond rfl ?_ ?_
          · intro hc6
            have hc6 : (((l.getD 2 0).toNat : Int) < 128) ∨ (191 < ((l.getD 2 0).toNat : Int)) := of_decide_eq_true hc6
            refine At.seq ?_
            refine At.region ?_
            refine AtL.assign (.inl rfl) rfl rfl ?_
            refine AtL.assign (.inl rfl) rfl rfl ?_
            refine AtL.done ?_
            refine At.pick (H' := H) [] 1 rfl rfl ?_
            exact At.ret Tryz.func225 rfl rfl (⟨_, 1, rfl, ⟨by omega, by omega, fun i h1 h2 => by omega, .inl rfl⟩, rfl⟩)
          · intro hc6
            have hc6 : ¬ ((((l.getD 2 0).toNat : Int) < 128) ∨ (191 < ((l.getD 2 0).toNat : Int))) := of_decide_eq_false hc6
            refine At.skip ?_
            refine At.seq ?_
            refine At.seq ?_
            refine At.region ?_
            refine AtL.move (.inl rfl) rfl rfl ?_
            refine AtL.leq (.inl rfl) rfl rfl rfl ?_
            refine AtL.done ?_
            refine At.condT rfl ?_
            refine At.seq ?_
            refine At.region ?_
            refine AtL.move (.inl rfl) rfl rfl ?_
            refine AtL.band (z := ((l.getD 0 0).toNat : Int) % 16) (.inl rfl) rfl rfl rfl (and8 4 (by decide) (by omega) (by omega)) ?_
            refine AtL.convInt (z := ((l.getD 0 0).toNat : Int) % 16) Tryz.underlying5 Tryz.underlying21 (.inl rfl) rfl rfl (w32i (by omega) (by omega)) ?_
            refine AtL.shl (z := (((l.getD 0 0).toNat : Int) % 16) * 4096) (.inl rfl) rfl rfl rfl (by omega) (shl_eq32 _ _ 12 rfl (by decide) _ (by decide) (by omega) (by omega)) ?_
            refine AtL.move (.inl rfl) rfl rfl ?_
            refine AtL.band (z := ((l.getD 1 0).toNat : Int) % 64) (.inl rfl) rfl rfl rfl (and8 6 (by decide) (by omega) (by omega)) ?_
            refine AtL.convInt (z := ((l.getD 1 0).toNat : Int) % 64) Tryz.underlying5 Tryz.underlying21 (.inl rfl) rfl rfl (w32i (by omega) (by omega)) ?_
            refine AtL.shl (z := (((l.getD 1 0).toNat : Int) % 64) * 64) (.inl rfl) rfl rfl rfl (by omega) (shl_eq32 _ _ 6 rfl (by decide) _ (by decide) (by omega) (by omega)) ?_
            obtain ⟨z2, hz2, hz2a, hz2b, hz2c⟩ := or32 (a := (((l.getD 0 0).toNat : Int) % 16) * 4096) (b := (((l.getD 1 0).toNat : Int) % 64) * 64) 16 (by decide) (by omega) (by omega) (by omega) (by omega)
            refine AtL.bor (z := z2) (.inl rfl) rfl rfl rfl hz2 ?_
            refine AtL.move (.inl rfl) rfl rfl ?_
            refine AtL.band (z := ((l.getD 2 0).toNat : Int) % 64) (.inl rfl) rfl rfl rfl (and8 6 (by decide) (by omega) (by omega)) ?_
            refine AtL.convInt (z := ((l.getD 2 0).toNat : Int) % 64) Tryz.underlying5 Tryz.underlying21 (.inl rfl) rfl rfl (w32i (by omega) (by omega)) ?_
            obtain ⟨z3, hz3, hz3a, hz3b, hz3c⟩ := or32 (a := z2) (b := ((l.getD 2 0).toNat : Int) % 64) 16 (by decide) (by omega) (by omega) (by omega) (by omega)
            refine AtL.bor (z := z3) (.inl rfl) rfl rfl rfl hz3 ?_
            refine AtL.assign (.inl rfl) rfl rfl ?_
            refine AtL.assign (.inl rfl) rfl rfl ?_
            refine AtL.done ?_
            refine At.pick (H' := H) [] 1 rfl rfl ?_
            exact At.ret Tryz.func225 rfl rfl (⟨_, 3, rfl, ⟨by omega, by omega, fun i h1 h2 => (by rcases (show i = 1 ∨ i = 2 by omega) with rfl | rfl <;> omega), .inr (.inr (.inl ⟨rfl, by omega, by omega⟩))⟩, rfl⟩)
set_option maxHeartbeats 400000 in
theorem slow_52 {w0 : World} {base : Nat} {H : List Seg} {A : Option Addr} {C : Nat} {l : List UInt8} (h : Rd tyB w0 base H A C l) (T : Tabs w0 base) (hl : l ≠ []) (hx : (Lib.firstT (l.getD 0 0).toNat : Int) = 52) (hp : (l.getD 0 0).toNat = 240) :
    SCalls Tryz.prog 225 [.slice A l.length C] w0 base (H) (fun v H' => ∃ (r : Int) (n : Nat), v = .tuple #[.int .i32 r, int (n : Int)] ∧ decOk l r n ∧ H' = H) := by
  have hpos := List.length_pos_iff.2 hl
  have hcap := h.cap
  have hle := h.le
  have hb0 := u8_le (l.getD 0 0)
  have hb1 := u8_le (l.getD 1 0)
  have hb2 := u8_le (l.getD 2 0)
  have hb3 := u8_le (l.getD 3 0)
  refine SCalls.of_walk (n := 122) Tryz.func225 rfl rfl rfl fun cs => ?_
  refine At.seq ?_
  refine At.region ?_
  refine AtL.assign (.inl rfl) rfl rfl ?_
  refine AtL.assign (.inl rfl) rfl rfl ?_
  refine AtL.done ?_
  refine At.seq ?_
  refine At.region ?_
  refine AtL.move (.inl rfl) rfl rfl ?_
  refine AtL.lenL Tryz.underlying22 (.inl rfl) rfl rfl ?_
  refine AtL.assign (.inl rfl) rfl rfl ?_
  refine AtL.done ?_
  refine At.seq ?_
  refine At.seq ?_
  refine At.region ?_
  refine AtL.move (.inl rfl) rfl rfl ?_
  refine AtL.lss (.inl rfl) rfl rfl rfl ?_
  refine AtL.done ?_
  refine At.condIs false rfl (decide_eq_false (by omega)) ?_
  refine At.skip ?_
  refine At.seq ?_
  refine At.region ?_
  refine AtL.move (.inl rfl) rfl rfl ?_
  refine AtL.indexL 0 h Tryz.underlying22 tf_sz5 (.inl rfl) rfl rfl rfl rfl (by omega) ?_
  refine AtL.load (v := .int .u8 ((l.getD 0 0).toNat : Int)) tf_flat5 (.inl rfl) rfl rfl (Rd.cell0 h (getD_some 0 (by omega)) rfl) ?_
  refine AtL.assign (.inl rfl) rfl rfl ?_
  refine AtL.done ?_
  refine At.seq ?_
  refine At.region ?_
  refine AtL.move (.inl rfl) rfl rfl ?_
  refine AtL.indexArr (a := ⟨4, 0, none⟩) ((l.getD 0 0).toNat) Tryz.underlying166 tf_sz5 (.inl rfl) rfl rfl rfl rfl (by omega) ?_
  refine AtL.load (v := .int .u8 52) tf_flat5 (.inl rfl) rfl rfl (T.one (l.getD 0 0) hx) ?_
  refine AtL.assign (.inl rfl) rfl rfl ?_
  refine AtL.done ?_
  refine At.seq ?_
  refine At.seq ?_
  refine At.region ?_
  refine AtL.move (.inl rfl) rfl rfl ?_
  refine AtL.geq (.inl rfl) rfl rfl rfl ?_
  refine AtL.done ?_
  refine At.condF rfl ?_
  refine At.skip ?_
  refine At.seq ?_
  refine At.region ?_
  refine AtL.move (.inl rfl) rfl rfl ?_
  refine AtL.band (z := 4) (.inl rfl) rfl rfl rfl (by decide) ?_
  refine AtL.convInt (z := 4) Tryz.underlying5 Tryz.underlying3 (.inl rfl) rfl rfl (by decide) ?_
  refine AtL.assign (.inl rfl) rfl rfl ?_
  refine AtL.done ?_
  refine At.seq ?_
  refine At.region ?_
  refine AtL.move (.inl rfl) rfl rfl ?_
  refine AtL.shr (z := 3) (.inl rfl) rfl rfl rfl (by decide) (by decide) ?_
  refine AtL.indexArr (a := ⟨5, 0, none⟩) 3 Tryz.underlying253 tf_sz252 (.inl rfl) rfl rfl rfl rfl (by omega) ?_
  refine AtL.loadN (cs := [.int .u8 144, .int .u8 191]) tf_agg252 (.inl rfl) rfl rfl rfl (T.two 3 (by decide) (by decide) (by decide)) ?_
  refine AtL.alloc tf_zero252 (cs := #[.int .u8 0, .int .u8 0]) rfl (.inl rfl) rfl ?_
  intro b1
  refine AtL.store (H' := [(b1, .cells #[.int .u8 144, .int .u8 191] 252 (0, 0))] :: H) 0 0 tf_sz252 (.inl rfl) rfl rfl rfl rfl rfl rfl rfl rfl rfl ?_
  refine AtL.done ?_
  refine At.seq ?_
  refine At.seq ?_
  refine At.region ?_
  refine AtL.move (.inl rfl) rfl rfl ?_
  refine AtL.move (.inl rfl) rfl rfl ?_
  refine AtL.lss (.inl rfl) rfl rfl rfl ?_
  refine AtL.done ?_
  refine At.cond rfl ?_ ?_
  · intro hc3
    have hc3 : (l.length : Int) < 4 := of_decide_eq_true hc3
    refine At.seq ?_
    refine At.region ?_
    refine AtL.assign (.inl rfl) rfl rfl ?_
    refine AtL.assign (.inl rfl) rfl rfl ?_
    refine AtL.done ?_
    refine At.pick (H' := H) [] 1 rfl rfl ?_
    exact At.ret Tryz.func225 rfl rfl (⟨_, 1, rfl, ⟨by omega, by omega, fun i h1 h2 => by omega, .inl rfl⟩, rfl⟩)
  · intro hc3
    have hc3 : ¬ ((l.length : Int) < 4) := of_decide_eq_false hc3
    refine At.skip ?_
    refine At.seq ?_
    refine At.region ?_
    refine AtL.move (.inl rfl) rfl rfl ?_
    refine AtL.indexL 1 (Rd.skip 1 h) Tryz.underlying22 tf_sz5 (.inl rfl) rfl rfl rfl rfl (by omega) ?_
    refine AtL.load (v := .int .u8 ((l.getD 1 0).toNat : Int)) tf_flat5 (.inl rfl) rfl rfl (Rd.cell0 (Rd.skip 1 h) (getD_some 0 (by omega)) rfl) ?_
    refine AtL.assign (.inl rfl) rfl rfl ?_
    refine AtL.done ?_
    refine At.seq ?_
    refine At.seq ?_
    refine At.region ?_
    refine AtL.move (.inl rfl) rfl rfl ?_
    refine AtL.fieldAddrB tf_fo252_0 (.inl rfl) rfl rfl rfl ?_
    refine AtL.load tf_flat5 (.inl rfl) rfl rfl (Cell.own 0 0 rfl rfl rfl) ?_
    refine AtL.lss (.inl rfl) rfl rfl rfl ?_
    refine AtL.move (.inl rfl) rfl rfl ?_
    refine AtL.join 5 (E' := [(60, .bool (decide ((((l.getD 1 0).toNat : Int) < 144) ∨ (191 < ((l.getD 1 0).toNat : Int))))), (0, .slice A l.length C), (5, .int .u8 ((l.getD 0 0).toNat : Int)), (8, .int .i64 4), (10, .int .u8 ((l.getD 1 0).toNat : Int))]) (H' := [(b1, .cells #[.int .u8 144, .int .u8 191] 252 (0, 0))] :: H) (fun J => ?_) ?_
    · refine AtL.split (t := 55) rfl ?_ ?_
      · intro hs55
        have hs55 : ((l.getD 1 0).toNat : Int) < 144 := of_decide_eq_true hs55
        refine AtL.skipped rfl rfl rfl rfl rfl rfl ?_
        refine AtL.skipped rfl rfl rfl rfl rfl rfl ?_
        refine AtL.skipped rfl rfl rfl rfl rfl rfl ?_
        refine AtL.skipped rfl rfl rfl rfl rfl rfl ?_
        refine AtL.pickT (.inl rfl) rfl rfl rfl ?_
        exact J _ (by exact ⟨(boolIs (by clear J; first | (simp [hs55]; done) | (simp_all; done) | grind)), rfl, rfl, rfl, rfl, trivial⟩)
      · intro hs55
        have hs55 : ¬ (((l.getD 1 0).toNat : Int) < 144) := of_decide_eq_false hs55
        refine AtL.fieldAddrB tf_fo252_1 (.inr ⟨_, _, _, rfl, rfl, rfl, rfl⟩) rfl rfl rfl ?_
        refine AtL.load tf_flat5 (.inr ⟨_, _, _, rfl, rfl, rfl, rfl⟩) rfl rfl (Cell.own 0 0 rfl rfl rfl) ?_
        refine AtL.move (.inr ⟨_, _, _, rfl, rfl, rfl, rfl⟩) rfl rfl ?_
        refine AtL.lss (.inr ⟨_, _, _, rfl, rfl, rfl, rfl⟩) rfl rfl rfl ?_
        refine AtL.pickF (.inl rfl) rfl rfl rfl ?_
        exact J _ (by exact ⟨(boolIs (by clear J; first | (simp [hs55]; done) | (simp_all; done) | grind)), rfl, rfl, rfl, rfl, trivial⟩)
    · skip
      refine AtL.done ?_
      refine At.cond rfl ?_ ?_
      · intro hc4
        have hc4 : (((l.getD 1 0).toNat : Int) < 144) ∨ (191 < ((l.getD 1 0).toNat : Int)) := of_decide_eq_true hc4
        refine At.seq ?_
        refine At.region ?_
        refine AtL.assign (.inl rfl) rfl rfl ?_
        refine AtL.assign (.inl rfl) rfl rfl ?_
        refine AtL.done ?_
        refine At.pick (H' := H) [] 1 rfl rfl ?_
        exact At.ret Tryz.func225 rfl rfl (⟨_, 1, rfl, ⟨by omega, by omega, fun i h1 h2 => by omega, .inl rfl⟩, rfl⟩)
      · intro hc4
        have hc4 : ¬ ((((l.getD 1 0).toNat : Int) < 144) ∨ (191 < ((l.getD 1 0).toNat : Int))) := of_decide_eq_false hc4
        refine At.skip ?_
        refine At.seq ?_
        refine At.seq ?_
        refine At.region ?_
        refine AtL.move (.inl rfl) rfl rfl ?_
        refine AtL.leq (.inl rfl) rfl rfl rfl ?_
        refine AtL.done ?_
        refine At.condF rfl ?_
        refine At.skip ?_
        refine At.seq ?_
        refine At.region ?_
        refine AtL.move (.inl rfl) rfl rfl ?_
        refine AtL.indexL 2 (Rd.skip 1 h) Tryz.underlying22 tf_sz5 (.inl rfl) rfl rfl rfl rfl (by omega) ?_
        refine AtL.load (v := .int .u8 ((l.getD 2 0).toNat : Int)) tf_flat5 (.inl rfl) rfl rfl (Rd.cell0 (Rd.skip 1 h) (getD_some 0 (by omega)) rfl) ?_
        refine AtL.assign (.inl rfl) rfl rfl ?_
        refine AtL.done ?_
        refine At.seq ?_
        refine At.seq ?_
        refine At.region ?_
        refine AtL.move (.inl rfl) rfl rfl ?_
        refine AtL.lss (.inl rfl) rfl rfl rfl ?_
        refine AtL.move (.inl rfl) rfl rfl ?_
        refine AtL.join 3 (E' := [(79, .bool (decide ((((l.getD 2 0).toNat : Int) < 128) ∨ (191 < ((l.getD 2 0).toNat : Int))))), (0, .slice A l.length C), (5, .int .u8 ((l.getD 0 0).toNat : Int)), (8, .int .i64 4), (10, .int .u8 ((l.getD 1 0).toNat : Int)), (11, .int .u8 ((l.getD 2 0).toNat : Int))]) (H' := [(b1, .cells #[.int .u8 144, .int .u8 191] 252 (0, 0))] :: H) (fun J => ?_) ?_
        · refine AtL.split (t := 76) rfl ?_ ?_
          · intro hs76
            have hs76 : ((l.getD 2 0).toNat : Int) < 128 := of_decide_eq_true hs76
            refine AtL.skipped rfl rfl rfl rfl rfl rfl ?_
            refine AtL.skipped rfl rfl rfl rfl rfl rfl ?_
            refine AtL.pickT (.inl rfl) rfl rfl rfl ?_
            exact J _ (by exact ⟨(boolIs (by clear J; first | (simp [hs76]; done) | (simp_all; done) | grind)), rfl, rfl, rfl, rfl, rfl, trivial⟩)
          · intro hs76
            have hs76 : ¬ (((l.getD 2 0).toNat : Int) < 128) := of_decide_eq_false hs76
            refine AtL.move (.inr ⟨_, _, _, rfl, rfl, rfl, rfl⟩) rfl rfl ?_
            refine AtL.lss (.inr ⟨_, _, _, rfl, rfl, rfl, rfl⟩) rfl rfl rfl ?_
            refine AtL.pickF (.inl rfl) rfl rfl rfl ?_
            exact J _ (by exact ⟨(boolIs (by clear J; first | (simp [hs76]; done) | (simp_all; done) | grind)), rfl, rfl, rfl, rfl, rfl, trivial⟩)
        · skip
          refine AtL.done ?_
          refine At.cond rfl ?_ ?_
          · intro hc6
            have hc6 : (((l.getD 2 0).toNat : Int) < 128) ∨ (191 < ((l.getD 2 0).toNat : Int)) := of_decide_eq_true hc6
            refine At.seq ?_
            refine At.region ?_
            refine AtL.assign (.inl rfl) rfl rfl ?_
            refine AtL.assign (.inl rfl) rfl rfl ?_
            refine AtL.done ?_
            refine At.pick (H' := H) [] 1 rfl rfl ?_
            exact At.ret Tryz.func225 rfl rfl (⟨_, 1, rfl, ⟨by omega, by omega, fun i h1 h2 => by omega, .inl rfl⟩, rfl⟩)
          · intro hc6
            have hc6 : ¬ ((((l.getD 2 0).toNat : Int) < 128) ∨ (191 < ((l.getD 2 0).toNat : Int))) := of_decide_eq_false hc6
            refine At.skip ?_
            refine At.seq ?_
            refine At.seq ?_
            refine At.region ?_
            refine AtL.move (.inl rfl) rfl rfl ?_
            refine AtL.leq (.inl rfl) rfl rfl rfl ?_
            refine AtL.done ?_
            refine At.condF rfl ?_
            refine At.skip ?_
            refine At.seq ?_
            refine At.region ?_
            refine AtL.move (.inl rfl) rfl rfl ?_
            refine AtL.indexL 3 (Rd.skip 1 h) Tryz.underlying22 tf_sz5 (.inl rfl) rfl rfl rfl rfl (by omega) ?_
            refine AtL.load (v := .int .u8 ((l.getD 3 0).toNat : Int)) tf_flat5 (.inl rfl) rfl rfl (Rd.cell0 (Rd.skip 1 h) (getD_some 0 (by omega)) rfl) ?_
            refine AtL.assign (.inl rfl) rfl rfl ?_
            refine AtL.done ?_
            refine At.seq ?_
            refine At.seq ?_
            refine At.region ?_
            refine AtL.move (.inl rfl) rfl rfl ?_
            refine AtL.lss (.inl rfl) rfl rfl rfl ?_
            refine AtL.move (.inl rfl) rfl rfl ?_
            refine AtL.join 3 (E' := [(103, .bool (decide ((((l.getD 3 0).toNat : Int) < 128) ∨ (191 < ((l.getD 3 0).toNat : Int))))), (5, .int .u8 ((l.getD 0 0).toNat : Int)), (10, .int .u8 ((l.getD 1 0).toNat : Int)), (11, .int .u8 ((l.getD 2 0).toNat : Int)), (12, .int .u8 ((l.getD 3 0).toNat : Int))]) (H' := [(b1, .cells #[.int .u8 144, .int .u8 191] 252 (0, 0))] :: H) (fun J => ?_) ?_
            · refine AtL.split (t := 100) rfl ?_ ?_
              · intro hs100
                have hs100 : ((l.getD 3 0).toNat : Int) < 128 := of_decide_eq_true hs100
                refine AtL.skipped rfl rfl rfl rfl rfl rfl ?_
                refine AtL.skipped rfl rfl rfl rfl rfl rfl ?_
                refine AtL.pickT (.inl rfl) rfl rfl rfl ?_
                exact J _ (by exact ⟨(boolIs (by clear J; first | (simp [hs100]; done) | (simp_all; done) | grind)), rfl, rfl, rfl, rfl, trivial⟩)
              · intro hs100
                have hs100 : ¬ (((l.getD 3 0).toNat : Int) < 128) := of_decide_eq_false hs100
                refine AtL.move (.inr ⟨_, _, _, rfl, rfl, rfl, rfl⟩) rfl rfl ?_
                refine AtL.lss (.inr ⟨_, _, _, rfl, rfl, rfl, rfl⟩) rfl rfl rfl ?_
                refine AtL.pickF (.inl rfl) rfl rfl rfl ?_
                exact J _ (by exact ⟨(boolIs (by clear J; first | (simp [hs100]; done) | (simp_all; done) | grind)), rfl, rfl, rfl, rfl, trivial⟩)
            · skip
              refine AtL.done ?_
              refine At.cond rfl ?_ ?_
              · intro hc8
                have hc8 : (((l.getD 3 0).toNat : Int) < 128) ∨ (191 < ((l.getD 3 0).toNat : Int)) := of_decide_eq_true hc8
                refine At.seq ?_
                refine At.region ?_
                refine AtL.assign (.inl rfl) rfl rfl ?_
                refine AtL.assign (.inl rfl) rfl rfl ?_
                refine AtL.done ?_
                refine At.pick (H' := H) [] 1 rfl rfl ?_
                exact At.ret Tryz.func225 rfl rfl (⟨_, 1, rfl, ⟨by omega, by omega, fun i h1 h2 => by omega, .inl rfl⟩, rfl⟩)
              · intro hc8
                have hc8 : ¬ ((((l.getD 3 0).toNat : Int) < 128) ∨ (191 < ((l.getD 3 0).toNat : Int))) := of_decide_eq_false hc8
                refine At.skip ?_
                refine At.seq ?_
                refine At.region ?_
                refine AtL.move (.inl rfl) rfl rfl ?_
                refine AtL.band (z := ((l.getD 0 0).toNat : Int) % 8) (.inl rfl) rfl rfl rfl (and8 3 (by decide) (by omega) (by omega)) ?_
                refine AtL.convInt (z := ((l.getD 0 0).toNat : Int) % 8) Tryz.underlying5 Tryz.underlying21 (.inl rfl) rfl rfl (w32i (by omega) (by omega)) ?_
                refine AtL.shl (z := (((l.getD 0 0).toNat : Int) % 8) * 262144) (.inl rfl) rfl rfl rfl (by omega) (shl_eq32 _ _ 18 rfl (by decide) _ (by decide) (by omega) (by omega)) ?_
                refine AtL.move (.inl rfl) rfl rfl ?_
                refine AtL.band (z := ((l.getD 1 0).toNat : Int) % 64) (.inl rfl) rfl rfl rfl (and8 6 (by decide) (by omega) (by omega)) ?_
                refine AtL.convInt (z := ((l.getD 1 0).toNat : Int) % 64) Tryz.underlying5 Tryz.underlying21 (.inl rfl) rfl rfl (w32i (by omega) (by omega)) ?_
                refine AtL.shl (z := (((l.getD 1 0).toNat : Int) % 64) * 4096) (.inl rfl) rfl rfl rfl (by omega) (shl_eq32 _ _ 12 rfl (by decide) _ (by decide) (by omega) (by omega)) ?_
                obtain ⟨z2, hz2, hz2a, hz2b, hz2c⟩ := or32 (a := (((l.getD 0 0).toNat : Int) % 8) * 262144) (b := (((l.getD 1 0).toNat : Int) % 64) * 4096) 31 (by decide) (by omega) (by omega) (by omega) (by omega)
                refine AtL.bor (z := z2) (.inl rfl) rfl rfl rfl hz2 ?_
                refine AtL.move (.inl rfl) rfl rfl ?_
                refine AtL.band (z := ((l.getD 2 0).toNat : Int) % 64) (.inl rfl) rfl rfl rfl (and8 6 (by decide) (by omega) (by omega)) ?_
                refine AtL.convInt (z := ((l.getD 2 0).toNat : Int) % 64) Tryz.underlying5 Tryz.underlying21 (.inl rfl) rfl rfl (w32i (by omega) (by omega)) ?_
                refine AtL.shl (z := (((l.getD 2 0).toNat : Int) % 64) * 64) (.inl rfl) rfl rfl rfl (by omega) (shl_eq32 _ _ 6 rfl (by decide) _ (by decide) (by omega) (by omega)) ?_
                obtain ⟨z3, hz3, hz3a, hz3b, hz3c⟩ := or32 (a := z2) (b := (((l.getD 2 0).toNat : Int) % 64) * 64) 31 (by decide) (by omega) (by omega) (by omega) (by omega)
                refine AtL.bor (z := z3) (.inl rfl) rfl rfl rfl hz3 ?_
                refine AtL.move (.inl rfl) rfl rfl ?_
                refine AtL.band (z := ((l.getD 3 0).toNat : Int) % 64) (.inl rfl) rfl rfl rfl (and8 6 (by decide) (by omega) (by omega)) ?_
                refine AtL.convInt (z := ((l.getD 3 0).toNat : Int) % 64) Tryz.underlying5 Tryz.underlying21 (.inl rfl) rfl rfl (w32i (by omega) (by omega)) ?_
                obtain ⟨z4, hz4, hz4a, hz4b, hz4c⟩ := or32 (a := z3) (b := ((l.getD 3 0).toNat : Int) % 64) 31 (by decide) (by omega) (by omega) (by omega) (by omega)
                refine AtL.bor (z := z4) (.inl rfl) rfl rfl rfl hz4 ?_
                refine AtL.assign (.inl rfl) rfl rfl ?_
                refine AtL.assign (.inl rfl) rfl rfl ?_
                refine AtL.done ?_
                refine At.pick (H' := H) [] 1 rfl rfl ?_
                exact At.ret Tryz.func225 rfl rfl (⟨_, 4, rfl, ⟨by omega, by omega, fun i h1 h2 => (by rcases (show i = 1 ∨ i = 2 ∨ i = 3 by omega) with rfl | rfl | rfl <;> omega), .inr (.inr (.inr ⟨rfl, by omega, by omega⟩))⟩, rfl⟩)
set_option maxHeartbeats 400000 in
theorem slow_4 {w0 : World} {base : Nat} {H : List Seg} {A : Option Addr} {C : Nat} {l : List UInt8} (h : Rd tyB w0 base H A C l) (T : Tabs w0 base) (hl : l ≠ []) (hx : (Lib.firstT (l.getD 0 0).toNat : Int) = 4) (hp : 241 ≤ (l.getD 0 0).toNat ∧ (l.getD 0 0).toNat < 244) :
    SCalls Tryz.prog 225 [.slice A l.length C] w0 base (H) (fun v H' => ∃ (r : Int) (n : Nat), v = .tuple #[.int .i32 r, int (n : Int)] ∧ decOk l r n ∧ H' = H) := by
  have hpos := List.length_pos_iff.2 hl
  have hcap := h.cap
  have hle := h.le
  have hb0 := u8_le (l.getD 0 0)
  have hb1 := u8_le (l.getD 1 0)
  have hb2 := u8_le (l.getD 2 0)
  have hb3 := u8_le (l.getD 3 0)
  refine SCalls.of_walk (n := 122) Tryz.func225 rfl rfl rfl fun cs => ?_
  refine At.seq ?_
  refine At.region ?_
  refine AtL.assign (.inl rfl) rfl rfl ?_
  refine AtL.assign (.inl rfl) rfl rfl ?_
  refine AtL.done ?_
  refine At.seq ?_
  refine At.region ?_
  refine AtL.move (.inl rfl) rfl rfl ?_
  refine AtL.lenL Tryz.underlying22 (.inl rfl) rfl rfl ?_
  refine AtL.assign (.inl rfl) rfl rfl ?_
  refine AtL.done ?_
  refine At.seq ?_
  refine At.seq ?_
  refine At.region ?_
  refine AtL.move (.inl rfl) rfl rfl ?_
  refine AtL.lss (.inl rfl) rfl rfl rfl ?_
  refine AtL.done ?_
  refine At.condIs false rfl (decide_eq_false (by omega)) ?_
  refine At.skip ?_
  refine At.seq ?_
  refine At.region ?_
  refine AtL.move (.inl rfl) rfl rfl ?_
  refine AtL.indexL 0 h Tryz.underlying22 tf_sz5 (.inl rfl) rfl rfl rfl rfl (by omega) ?_
  refine AtL.load (v := .int .u8 ((l.getD 0 0).toNat : Int)) tf_flat5 (.inl rfl) rfl rfl (Rd.cell0 h (getD_some 0 (by omega)) rfl) ?_
  refine AtL.assign (.inl rfl) rfl rfl ?_
  refine AtL.done ?_
  refine At.seq ?_
  refine At.region ?_
  refine AtL.move (.inl rfl) rfl rfl ?_
  refine AtL.indexArr (a := ⟨4, 0, none⟩) ((l.getD 0 0).toNat) Tryz.underlying166 tf_sz5 (.inl rfl) rfl rfl rfl rfl (by omega) ?_
  refine AtL.load (v := .int .u8 4) tf_flat5 (.inl rfl) rfl rfl (T.one (l.getD 0 0) hx) ?_
  refine AtL.assign (.inl rfl) rfl rfl ?_
  refine AtL.done ?_
  refine At.seq ?_
  refine At.seq ?_
  refine At.region ?_
  refine AtL.move (.inl rfl) rfl rfl ?_
  refine AtL.geq (.inl rfl) rfl rfl rfl ?_
  refine AtL.done ?_
  refine At.condF rfl ?_
  refine At.skip ?_
  refine At.seq ?_
  refine At.region ?_
  refine AtL.move (.inl rfl) rfl rfl ?_
  refine AtL.band (z := 4) (.inl rfl) rfl rfl rfl (by decide) ?_
  refine AtL.convInt (z := 4) Tryz.underlying5 Tryz.underlying3 (.inl rfl) rfl rfl (by decide) ?_
  refine AtL.assign (.inl rfl) rfl rfl ?_
  refine AtL.done ?_
  refine At.seq ?_
  refine At.region ?_
  refine AtL.move (.inl rfl) rfl rfl ?_
  refine AtL.shr (z := 0) (.inl rfl) rfl rfl rfl (by decide) (by decide) ?_
  refine AtL.indexArr (a := ⟨5, 0, none⟩) 0 Tryz.underlying253 tf_sz252 (.inl rfl) rfl rfl rfl rfl (by omega) ?_
  refine AtL.loadN (cs := [.int .u8 128, .int .u8 191]) tf_agg252 (.inl rfl) rfl rfl rfl (T.two 0 (by decide) (by decide) (by decide)) ?_
  refine AtL.alloc tf_zero252 (cs := #[.int .u8 0, .int .u8 0]) rfl (.inl rfl) rfl ?_
  intro b1
  refine AtL.store (H' := [(b1, .cells #[.int .u8 128, .int .u8 191] 252 (0, 0))] :: H) 0 0 tf_sz252 (.inl rfl) rfl rfl rfl rfl rfl rfl rfl rfl rfl ?_
  refine AtL.done ?_
  refine At.seq ?_
  refine At.seq ?_
  refine At.region ?_
  refine AtL.move (.inl rfl) rfl rfl ?_
  refine AtL.move (.inl rfl) rfl rfl ?_
  refine AtL.lss (.inl rfl) rfl rfl rfl ?_
  refine AtL.done ?_
  refine At.cond rfl ?_ ?_
  · intro hc3
    have hc3 : (l.length : Int) < 4 := of_decide_eq_true hc3
    refine At.seq ?_
    refine At.region ?_
    refine AtL.assign (.inl rfl) rfl rfl ?_
    refine AtL.assign (.inl rfl) rfl rfl ?_
    refine AtL.done ?_
    refine At.pick (H' := H) [] 1 rfl rfl ?_
    exact At.ret Tryz.func225 rfl rfl (⟨_, 1, rfl, ⟨by omega, by omega, fun i h1 h2 => by omega, .inl rfl⟩, rfl⟩)
  · intro hc3
    have hc3 : ¬ ((l.length : Int) < 4) := of_decide_eq_false hc3
    refine At.skip ?_
    refine At.seq ?_
    refine At.region ?_
    refine AtL.move (.inl rfl) rfl rfl ?_
    refine AtL.indexL 1 (Rd.skip 1 h) Tryz.underlying22 tf_sz5 (.inl rfl) rfl rfl rfl rfl (by omega) ?_
    refine AtL.load (v := .int .u8 ((l.getD 1 0).toNat : Int)) tf_flat5 (.inl rfl) rfl rfl (Rd.cell0 (Rd.skip 1 h) (getD_some 0 (by omega)) rfl) ?_
    refine AtL.assign (.inl rfl) rfl rfl ?_
    refine AtL.done ?_
    refine At.seq ?_
    refine At.seq ?_
    refine At.region ?_
    refine AtL.move (.inl rfl) rfl rfl ?_
    refine AtL.fieldAddrB tf_fo252_0 (.inl rfl) rfl rfl rfl ?_
    refine AtL.load tf_flat5 (.inl rfl) rfl rfl (Cell.own 0 0 rfl rfl rfl) ?_
    refine AtL.lss (.inl rfl) rfl rfl rfl ?_
    refine AtL.move (.inl rfl) rfl rfl ?_
    refine AtL.join 5 (E' := [(60, .bool (decide ((((l.getD 1 0).toNat : Int) < 128) ∨ (191 < ((l.getD 1 0).toNat : Int))))), (0, .slice A l.length C), (5, .int .u8 ((l.getD 0 0).toNat : Int)), (8, .int .i64 4), (10, .int .u8 ((l.getD 1 0).toNat : Int))]) (H' := [(b1, .cells #[.int .u8 128, .int .u8 191] 252 (0, 0))] :: H) (fun J => ?_) ?_
    · refine AtL.split (t := 55) rfl ?_ ?_
      · intro hs55
        have hs55 : ((l.getD 1 0).toNat : Int) < 128 := of_decide_eq_true hs55
        refine AtL.skipped rfl rfl rfl rfl rfl rfl ?_
        refine AtL.skipped rfl rfl rfl rfl rfl rfl ?_
        refine AtL.skipped rfl rfl rfl rfl rfl rfl ?_
        refine AtL.skipped rfl rfl rfl rfl rfl rfl ?_
        refine AtL.pickT (.inl rfl) rfl rfl rfl ?_
        exact J _ (by exact ⟨(boolIs (by clear J; first | (simp [hs55]; done) | (simp_all; done) | grind)), rfl, rfl, rfl, rfl, trivial⟩)
      · intro hs55
        have hs55 : ¬ (((l.getD 1 0).toNat : Int) < 128) := of_decide_eq_false hs55
        refine AtL.fieldAddrB tf_fo252_1 (.inr ⟨_, _, _, rfl, rfl, rfl, rfl⟩) rfl rfl rfl ?_
        refine AtL.load tf_flat5 (.inr ⟨_, _, _, rfl, rfl, rfl, rfl⟩) rfl rfl (Cell.own 0 0 rfl rfl rfl) ?_
        refine AtL.move (.inr ⟨_, _, _, rfl, rfl, rfl, rfl⟩) rfl rfl ?_
        refine AtL.lss (.inr ⟨_, _, _, rfl, rfl, rfl, rfl⟩) rfl rfl rfl ?_
        refine AtL.pickF (.inl rfl) rfl rfl rfl ?_
        exact J _ (by exact ⟨(boolIs (by clear J; first | (simp [hs55]; done) | (simp_all; done) | grind)), rfl, rfl, rfl, rfl, trivial⟩)
    · skip
      refine AtL.done ?_
      refine At.cond rfl ?_ ?_
      · intro hc4
        have hc4 : (((l.getD 1 0).toNat : Int) < 128) ∨ (191 < ((l.getD 1 0).toNat : Int)) := of_decide_eq_true hc4
        refine At.seq ?_
        refine At.region ?_
        refine AtL.assign (.inl rfl) rfl rfl ?_
        refine AtL.assign (.inl rfl) rfl rfl ?_
        refine AtL.done ?_
        refine At.pick (H' := H) [] 1 rfl rfl ?_
        exact At.ret Tryz.func225 rfl rfl (⟨_, 1, rfl, ⟨by omega, by omega, fun i h1 h2 => by omega, .inl rfl⟩, rfl⟩)
      · intro hc4
        have hc4 : ¬ ((((l.getD 1 0).toNat : Int) < 128) ∨ (191 < ((l.getD 1 0).toNat : Int))) := of_decide_eq_false hc4
        refine At.skip ?_
        refine At.seq ?_
        refine At.seq ?_
        refine At.region ?_
        refine AtL.move (.inl rfl) rfl rfl ?_
        refine AtL.leq (.inl rfl) rfl rfl rfl ?_
        refine AtL.done ?_
        refine At.condF rfl ?_
        refine At.skip ?_
        refine At.seq ?_
        refine At.region ?_
        refine AtL.move (.inl rfl) rfl rfl ?_
        refine AtL.indexL 2 (Rd.skip 1 h) Tryz.underlying22 tf_sz5 (.inl rfl) rfl rfl rfl rfl (by omega) ?_
        refine AtL.load (v := .int .u8 ((l.getD 2 0).toNat : Int)) tf_flat5 (.inl rfl) rfl rfl (Rd.cell0 (Rd.skip 1 h) (getD_some 0 (by omega)) rfl) ?_
        refine AtL.assign (.inl rfl) rfl rfl ?_
        refine AtL.done ?_
        refine At.seq ?_
        refine At.seq ?_
        refine At.region ?_
        refine AtL.move (.inl rfl) rfl rfl ?_
        refine AtL.lss (.inl rfl) rfl rfl rfl ?_
        refine AtL.move (.inl rfl) rfl rfl ?_
        refine AtL.join 3 (E' := [(79, .bool (decide ((((l.getD 2 0).toNat : Int) < 128) ∨ (191 < ((l.getD 2 0).toNat : Int))))), (0, .slice A l.length C), (5, .int .u8 ((l.getD 0 0).toNat : Int)), (8, .int .i64 4), (10, .int .u8 ((l.getD 1 0).toNat : Int)), (11, .int .u8 ((l.getD 2 0).toNat : Int))]) (H' := [(b1, .cells #[.int .u8 128, .int .u8 191] 252 (0, 0))] :: H) (fun J => ?_) ?_
        · refine AtL.split (t := 76) rfl ?_ ?_
          · intro hs76
            have hs76 : ((l.getD 2 0).toNat : Int) < 128 := of_decide_eq_true hs76
            refine AtL.skipped rfl rfl rfl rfl rfl rfl ?_
            refine AtL.skipped rfl rfl rfl rfl rfl rfl ?_
            refine AtL.pickT (.inl rfl) rfl rfl rfl ?_
            exact J _ (by exact ⟨(boolIs (by clear J; first | (simp [hs76]; done) | (simp_all; done) | grind)), rfl, rfl, rfl, rfl, rfl, trivial⟩)
          · intro hs76
            have hs76 : ¬ (((l.getD 2 0).toNat : Int) < 128) := of_decide_eq_false hs76
            refine AtL.move (.inr ⟨_, _, _, rfl, rfl, rfl, rfl⟩) rfl rfl ?_
            refine AtL.lss (.inr ⟨_, _, _, rfl, rfl, rfl, rfl⟩) rfl rfl rfl ?_
            refine AtL.pickF (.inl rfl) rfl rfl rfl ?_
            exact J _ (by exact ⟨(boolIs (by clear J; first | (simp [hs76]; done) | (simp_all; done) | grind)), rfl, rfl, rfl, rfl, rfl, trivial⟩)
        · skip
          refine AtL.done ?_
          refine At.cond rfl ?_ ?_
          · intro hc6
            have hc6 : (((l.getD 2 0).toNat : Int) < 128) ∨ (191 < ((l.getD 2 0).toNat : Int)) := of_decide_eq_true hc6
            refine At.seq ?_
            refine At.region ?_
            refine AtL.assign (.inl rfl) rfl rfl ?_
            refine AtL.assign (.inl rfl) rfl rfl ?_
            refine AtL.done ?_
            refine At.pick (H' := H) [] 1 rfl rfl ?_
            exact At.ret Tryz.func225 rfl rfl (⟨_, 1, rfl, ⟨by omega, by omega, fun i h1 h2 => by omega, .inl rfl⟩, rfl⟩)
          · intro hc6
            have hc6 : ¬ ((((l.getD 2 0).toNat : Int) < 128) ∨ (191 < ((l.getD 2 0).toNat : Int))) := of_decide_eq_false hc6
            refine At.skip ?_
            refine At.seq ?_
            refine At.seq ?_
            refine At.region ?_
            refine AtL.move (.inl rfl) rfl rfl ?_
            refine AtL.leq (.inl rfl) rfl rfl rfl ?_
            refine AtL.done ?_
            refine At.condF rfl ?_
            refine At.skip ?_
            refine At.seq ?_
            refine At.region ?_
            refine AtL.move (.inl rfl) rfl rfl ?_
            refine AtL.indexL 3 (Rd.skip 1 h) Tryz.underlying22 tf_sz5 (.inl rfl) rfl rfl rfl rfl (by omega) ?_
            refine AtL.load (v := .int .u8 ((l.getD 3 0).toNat : Int)) tf_flat5 (.inl rfl) rfl rfl (Rd.cell0 (Rd.skip 1 h) (getD_some 0 (by omega)) rfl) ?_
            refine AtL.assign (.inl rfl) rfl rfl ?_
            refine AtL.done ?_
            refine At.seq ?_
            refine At.seq ?_
            refine At.region ?_
            refine AtL.move (.inl rfl) rfl rfl ?_
            refine AtL.lss (.inl rfl) rfl rfl rfl ?_
            refine AtL.move (.inl rfl) rfl rfl ?_
            refine AtL.join 3 (E' := [(103, .bool (decide ((((l.getD 3 0).toNat : Int) < 128) ∨ (191 < ((l.getD 3 0).toNat : Int))))), (5, .int .u8 ((l.getD 0 0).toNat : Int)), (10, .int .u8 ((l.getD 1 0).toNat : Int)), (11, .int .u8 ((l.getD 2 0).toNat : Int)), (12, .int .u8 ((l.getD 3 0).toNat : Int))]) (H' := [(b1, .cells #[.int .u8 128, .int .u8 191] 252 (0, 0))] :: H) (fun J => ?_) ?_
            · refine AtL.split (t := 100) rfl ?_ ?_
              · intro hs100
                have hs100 : ((l.getD 3 0).toNat : Int) < 128 := of_decide_eq_true hs100
                refine AtL.skipped rfl rfl rfl rfl rfl rfl ?_
                refine AtL.skipped rfl rfl rfl rfl rfl rfl ?_
                refine AtL.pickT (.inl rfl) rfl rfl rfl ?_
                exact J _ (by exact ⟨(boolIs (by clear J; first | (simp [hs100]; done) | (simp_all; done) | grind)), rfl, rfl, rfl, rfl, trivial⟩)
              · intro hs100
                have hs100 : ¬ (((l.getD 3 0).toNat : Int) < 128) := of_decide_eq_false hs100
                refine AtL.move (.inr ⟨_, _, _, rfl, rfl, rfl, rfl⟩) rfl rfl ?_
                refine AtL.lss (.inr ⟨_, _, _, rfl, rfl, rfl, rfl⟩) rfl rfl rfl ?_
                refine AtL.pickF (.inl rfl) rfl rfl rfl ?_
                exact J _ (by exact ⟨(boolIs (by clear J; first | (simp [hs100]; done) | (simp_all; done) | grind)), rfl, rfl, rfl, rfl, trivial⟩)
            · skip
              refine AtL.done ?_
              refine At.cond rfl ?_ ?_
              · intro hc8
                have hc8 : (((l.getD 3 0).toNat : Int) < 128) ∨ (191 < ((l.getD 3 0).toNat : Int)) := of_decide_eq_true hc8
                refine At.seq ?_
                refine At.region ?_
                refine AtL.assign (.inl rfl) rfl rfl ?_
                refine AtL.assign (.inl rfl) rfl rfl ?_
                refine AtL.done ?_
                refine At.pick (H' := H) [] 1 rfl rfl ?_
                exact At.ret Tryz.func225 rfl rfl (⟨_, 1, rfl, ⟨by omega, by omega, fun i h1 h2 => by omega, .inl rfl⟩, rfl⟩)
              · intro hc8
                have hc8 : ¬ ((((l.getD 3 0).toNat : Int) < 128) ∨ (191 < ((l.getD 3 0).toNat : Int))) := of_decide_eq_false hc8
                refine At.skip ?_
                refine At.seq ?_
                refine At.region ?_
                refine AtL.move (.inl rfl) rfl rfl ?_
                refine AtL.band (z := ((l.getD 0 0).toNat : Int) % 8) (.inl rfl) rfl rfl rfl (and8 3 (by decide) (by omega) (by omega)) ?_
                refine AtL.convInt (z := ((l.getD 0 0).toNat : Int) % 8) Tryz.underlying5 Tryz.underlying21 (.inl rfl) rfl rfl (w32i (by omega) (by omega)) ?_
                refine AtL.shl (z := (((l.getD 0 0).toNat : Int) % 8) * 262144) (.inl rfl) rfl rfl rfl (by omega) (shl_eq32 _ _ 18 rfl (by decide) _ (by decide) (by omega) (by omega)) ?_
                refine AtL.move (.inl rfl) rfl rfl ?_
                refine AtL.band (z := ((l.getD 1 0).toNat : Int) % 64) (.inl rfl) rfl rfl rfl (and8 6 (by decide) (by omega) (by omega)) ?_
                refine AtL.convInt (z := ((l.getD 1 0).toNat : Int) % 64) Tryz.underlying5 Tryz.underlying21 (.inl rfl) rfl rfl (w32i (by omega) (by omega)) ?_
                refine AtL.shl (z := (((l.getD 1 0).toNat : Int) % 64) * 4096) (.inl rfl) rfl rfl rfl (by omega) (shl_eq32 _ _ 12 rfl (by decide) _ (by decide) (by omega) (by omega)) ?_
                obtain ⟨z2, hz2, hz2a, hz2b, hz2c⟩ := or32 (a := (((l.getD 0 0).toNat : Int) % 8) * 262144) (b := (((l.getD 1 0).toNat : Int) % 64) * 4096) 31 (by decide) (by omega) (by omega) (by omega) (by omega)
                refine AtL.bor (z := z2) (.inl rfl) rfl rfl rfl hz2 ?_
                refine AtL.move (.inl rfl) rfl rfl ?_
                refine AtL.band (z := ((l.getD 2 0).toNat : Int) % 64) (.inl rfl) rfl rfl rfl (and8 6 (by decide) (by omega) (by omega)) ?_
                refine AtL.convInt (z := ((l.getD 2 0).toNat : Int) % 64) Tryz.underlying5 Tryz.underlying21 (.inl rfl) rfl rfl (w32i (by omega) (by omega)) ?_
                refine AtL.shl (z := (((l.getD 2 0).toNat : Int) % 64) * 64) (.inl rfl) rfl rfl rfl (by omega) (shl_eq32 _ _ 6 rfl (by decide) _ (by decide) (by omega) (by omega)) ?_
                obtain ⟨z3, hz3, hz3a, hz3b, hz3c⟩ := or32 (a := z2) (b := (((l.getD 2 0).toNat : Int) % 64) * 64) 31 (by decide) (by omega) (by omega) (by omega) (by omega)
                refine AtL.bor (z := z3) (.inl rfl) rfl rfl rfl hz3 ?_
                refine AtL.move (.inl rfl) rfl rfl ?_
                refine AtL.band (z := ((l.getD 3 0).toNat : Int) % 64) (.inl rfl) rfl rfl rfl (and8 6 (by decide) (by omega) (by omega)) ?_
                refine AtL.convInt (z := ((l.getD 3 0).toNat : Int) % 64) Tryz.underlying5 Tryz.underlying21 (.inl rfl) rfl rfl (w32i (by omega) (by omega)) ?_
                obtain ⟨z4, hz4, hz4a, hz4b, hz4c⟩ := or32 (a := z3) (b := ((l.getD 3 0).toNat : Int) % 64) 31 (by decide) (by omega) (by omega) (by omega) (by omega)
                refine AtL.bor (z := z4) (.inl rfl) rfl rfl rfl hz4 ?_
                refine AtL.assign (.inl rfl) rfl rfl ?_
                refine AtL.assign (.inl rfl) rfl rfl ?_
                refine AtL.done ?_
                refine At.pick (H' := H) [] 1 rfl rfl ?_
                exact At.ret Tryz.func225 rfl rfl (⟨_, 4, rfl, ⟨by omega, by omega, fun i h1 h2 => (by rcases (show i = 1 ∨ i = 2 ∨ i = 3 by omega) with rfl | rfl | rfl <;> omega), .inr (.inr (.inr ⟨rfl, by omega, by omega⟩))⟩, rfl⟩)
set_option maxHeartbeats 400000 in
theorem slow_68 {w0 : World} {base : Nat} {H : List Seg} {A : Option Addr} {C : Nat} {l : List UInt8} (h : Rd tyB w0 base H A C l) (T : Tabs w0 base) (hl : l ≠ []) (hx : (Lib.firstT (l.getD 0 0).toNat : Int) = 68) (hp : (l.getD 0 0).toNat = 244) :
    SCalls Tryz.prog 225 [.slice A l.length C] w0 base (H) (fun v H' => ∃ (r : Int) (n : Nat), v = .tuple #[.int .i32 r, int (n : Int)] ∧ decOk l r n ∧ H' = H) := by
  have hpos := List.length_pos_iff.2 hl
  have hcap := h.cap
  have hle := h.le
  have hb0 := u8_le (l.getD 0 0)
  have hb1 := u8_le (l.getD 1 0)
  have hb2 := u8_le (l.getD 2 0)
  have hb3 := u8_le (l.getD 3 0)
  refine SCalls.of_walk (n := 122) Tryz.func225 rfl rfl rfl fun cs => ?_
  refine At.seq ?_
  refine At.region ?_
  refine AtL.assign (.inl rfl) rfl rfl ?_
  refine AtL.assign (.inl rfl) rfl rfl ?_
  refine AtL.done ?_
  refine At.seq ?_
  refine At.region ?_
  refine AtL.move (.inl rfl) rfl rfl ?_
  refine AtL.lenL Tryz.underlying22 (.inl rfl) rfl rfl ?_
  refine AtL.assign (.inl rfl) rfl rfl ?_
  refine AtL.done ?_
  refine At.seq ?_
  refine At.seq ?_
  refine At.region ?_
  refine AtL.move (.inl rfl) rfl rfl ?_
  refine AtL.lss (.inl rfl) rfl rfl rfl ?_
  refine AtL.done ?_
  refine At.condIs false rfl (decide_eq_false (by omega)) ?_
  refine At.skip ?_
  refine At.seq ?_
  refine At.region ?_
  refine AtL.move (.inl rfl) rfl rfl ?_
  refine AtL.indexL 0 h Tryz.underlying22 tf_sz5 (.inl rfl) rfl rfl rfl rfl (by omega) ?_
  refine AtL.load (v := .int .u8 ((l.getD 0 0).toNat : Int)) tf_flat5 (.inl rfl) rfl rfl (Rd.cell0 h (getD_some 0 (by omega)) rfl) ?_
  refine AtL.assign (.inl rfl) rfl rfl ?_
  refine AtL.done ?_
  refine At.seq ?_
  refine At.region ?_
  refine AtL.move (.inl rfl) rfl rfl ?_
  refine AtL.indexArr (a := ⟨4, 0, none⟩) ((l.getD 0 0).toNat) Tryz.underlying166 tf_sz5 (.inl rfl) rfl rfl rfl rfl (by omega) ?_
  refine AtL.load (v := .int .u8 68) tf_flat5 (.inl rfl) rfl rfl (T.one (l.getD 0 0) hx) ?_
  refine AtL.assign (.inl rfl) rfl rfl ?_
  refine AtL.done ?_
  refine At.seq ?_
  refine At.seq ?_
  refine At.region ?_
  refine AtL.move (.inl rfl) rfl rfl ?_
  refine AtL.geq (.inl rfl) rfl rfl rfl ?_
  refine AtL.done ?_
  refine At.condF rfl ?_
  refine At.skip ?_
  refine At.seq ?_
  refine At.region ?_
  refine AtL.move (.inl rfl) rfl rfl ?_
  refine AtL.band (z := 4) (.inl rfl) rfl rfl rfl (by decide) ?_
  refine AtL.convInt (z := 4) Tryz.underlying5 Tryz.underlying3 (.inl rfl) rfl rfl (by decide) ?_
  refine AtL.assign (.inl rfl) rfl rfl ?_
  refine AtL.done ?_
  refine At.seq ?_
  refine At.region ?_
  refine AtL.move (.inl rfl) rfl rfl ?_
  refine AtL.shr (z := 4) (.inl rfl) rfl rfl rfl (by decide) (by decide) ?_
  refine AtL.indexArr (a := ⟨5, 0, none⟩) 4 Tryz.underlying253 tf_sz252 (.inl rfl) rfl rfl rfl rfl (by omega) ?_
  refine AtL.loadN (cs := [.int .u8 128, .int .u8 143]) tf_agg252 (.inl rfl) rfl rfl rfl (T.two 4 (by decide) (by decide) (by decide)) ?_
  refine AtL.alloc tf_zero252 (cs := #[.int .u8 0, .int .u8 0]) rfl (.inl rfl) rfl ?_
  intro b1
  refine AtL.store (H' := [(b1, .cells #[.int .u8 128, .int .u8 143] 252 (0, 0))] :: H) 0 0 tf_sz252 (.inl rfl) rfl rfl rfl rfl rfl rfl rfl rfl rfl ?_
  refine AtL.done ?_
  refine At.seq ?_
  refine At.seq ?_
  refine At.region ?_
  refine AtL.move (.inl rfl) rfl rfl ?_
  refine AtL.move (.inl rfl) rfl rfl ?_
  refine AtL.lss (.inl rfl) rfl rfl rfl ?_
  refine AtL.done ?_
  refine At.cond rfl ?_ ?_
  · intro hc3
    have hc3 : (l.length : Int) < 4 := of_decide_eq_true hc3
    refine At.seq ?_
    refine At.region ?_
    refine AtL.assign (.inl rfl) rfl rfl ?_
    refine AtL.assign (.inl rfl) rfl rfl ?_
    refine AtL.done ?_
    refine At.pick (H' := H) [] 1 rfl rfl ?_
    exact At.ret Tryz.func225 rfl rfl (⟨_, 1, rfl, ⟨by omega, by omega, fun i h1 h2 => by omega, .inl rfl⟩, rfl⟩)
  · intro hc3
    have hc3 : ¬ ((l.length : Int) < 4) := of_decide_eq_false hc3
    refine At.skip ?_
    refine At.seq ?_
    refine At.region ?_
    refine AtL.move (.inl rfl) rfl rfl ?_
    refine AtL.indexL 1 (Rd.skip 1 h) Tryz.underlying22 tf_sz5 (.inl rfl) rfl rfl rfl rfl (by omega) ?_
    refine AtL.load (v := .int .u8 ((l.getD 1 0).toNat : Int)) tf_flat5 (.inl rfl) rfl rfl (Rd.cell0 (Rd.skip 1 h) (getD_some 0 (by omega)) rfl) ?_
    refine AtL.assign (.inl rfl) rfl rfl ?_
    refine AtL.done ?_
    refine At.seq ?_
    refine At.seq ?_
    refine At.region ?_
    refine AtL.move (.inl rfl) rfl rfl ?_
    refine AtL.fieldAddrB tf_fo252_0 (.inl rfl) rfl rfl rfl ?_
    refine AtL.load tf_flat5 (.inl rfl) rfl rfl (Cell.own 0 0 rfl rfl rfl) ?_
    refine AtL.lss (.inl rfl) rfl rfl rfl ?_
    refine AtL.move (.inl rfl) rfl rfl ?_
    refine AtL.join 5 (E' := [(60, .bool (decide ((((l.getD 1 0).toNat : Int) < 128) ∨ (143 < ((l.getD 1 0).toNat : Int))))), (0, .slice A l.length C), (5, .int .u8 ((l.getD 0 0).toNat : Int)), (8, .int .i64 4), (10, .int .u8 ((l.getD 1 0).toNat : Int))]) (H' := [(b1, .cells #[.int .u8 128, .int .u8 143] 252 (0, 0))] :: H) (fun J => ?_) ?_
    · refine AtL.split (t := 55) rfl ?_ ?_
      · intro hs55
        have hs55 : ((l.getD 1 0).toNat : Int) < 128 := of_decide_eq_true hs55
        refine AtL.skipped rfl rfl rfl rfl rfl rfl ?_
        refine AtL.skipped rfl rfl rfl rfl rfl rfl ?_
        refine AtL.skipped rfl rfl rfl rfl rfl rfl ?_
        refine AtL.skipped rfl rfl rfl rfl rfl rfl ?_
        refine AtL.pickT (.inl rfl) rfl rfl rfl ?_
        exact J _ (by exact ⟨(boolIs (by clear J; first | (simp [hs55]; done) | (simp_all; done) | grind)), rfl, rfl, rfl, rfl, trivial⟩)
      · intro hs55
        have hs55 : ¬ (((l.getD 1 0).toNat : Int) < 128) := of_decide_eq_false hs55
        refine AtL.fieldAddrB tf_fo252_1 (.inr ⟨_, _, _, rfl, rfl, rfl, rfl⟩) rfl rfl rfl ?_
        refine AtL.load tf_flat5 (.inr ⟨_, _, _, rfl, rfl, rfl, rfl⟩) rfl rfl (Cell.own 0 0 rfl rfl rfl) ?_
        refine AtL.move (.inr ⟨_, _, _, rfl, rfl, rfl, rfl⟩) rfl rfl ?_
        refine AtL.lss (.inr ⟨_, _, _, rfl, rfl, rfl, rfl⟩) rfl rfl rfl ?_
        refine AtL.pickF (.inl rfl) rfl rfl rfl ?_
        exact J _ (by exact ⟨(boolIs (by clear J; first | (simp [hs55]; done) | (simp_all; done) | grind)), rfl, rfl, rfl, rfl, trivial⟩)
    · skip
      refine AtL.done ?_
      refine At.cond rfl ?_ ?_
      · intro hc4
        have hc4 : (((l.getD 1 0).toNat : Int) < 128) ∨ (143 < ((l.getD 1 0).toNat : Int)) := of_decide_eq_true hc4
        refine At.seq ?_
        refine At.region ?_
        refine AtL.assign (.inl rfl) rfl rfl ?_
        refine AtL.assign (.inl rfl) rfl rfl ?_
        refine AtL.done ?_
        refine At.pick (H' := H) [] 1 rfl rfl ?_
        exact At.ret Tryz.func225 rfl rfl (⟨_, 1, rfl, ⟨by omega, by omega, fun i h1 h2 => by omega, .inl rfl⟩, rfl⟩)
      · intro hc4
        have hc4 : ¬ ((((l.getD 1 0).toNat : Int) < 128) ∨ (143 < ((l.getD 1 0).toNat : Int))) := of_decide_eq_false hc4
        refine At.skip ?_
        refine At.seq ?_
        refine At.seq ?_
        refine At.region ?_
        refine AtL.move (.inl rfl) rfl rfl ?_
        refine AtL.leq (.inl rfl) rfl rfl rfl ?_
        refine AtL.done ?_
        refine At.condF rfl ?_
        refine At.skip ?_
        refine At.seq ?_
        refine At.region ?_
        refine AtL.move (.inl rfl) rfl rfl ?_
        refine AtL.indexL 2 (Rd.skip 1 h) Tryz.underlying22 tf_sz5 (.inl rfl) rfl rfl rfl rfl (by omega) ?_
        refine AtL.load (v := .int .u8 ((l.getD 2 0).toNat : Int)) tf_flat5 (.inl rfl) rfl rfl (Rd.cell0 (Rd.skip 1 h) (getD_some 0 (by omega)) rfl) ?_
        refine AtL.assign (.inl rfl) rfl rfl ?_
        refine AtL.done ?_
        refine At.seq ?_
        refine At.seq ?_
        refine At.region ?_
        refine AtL.move (.inl rfl) rfl rfl ?_
        refine AtL.lss (.inl rfl) rfl rfl rfl ?_
        refine AtL.move (.inl rfl) rfl rfl ?_
        refine AtL.join 3 (E' := [(79, .bool (decide ((((l.getD 2 0).toNat : Int) < 128) ∨ (191 < ((l.getD 2 0).toNat : Int))))), (0, .slice A l.length C), (5, .int .u8 ((l.getD 0 0).toNat : Int)), (8, .int .i64 4), (10, .int .u8 ((l.getD 1 0).toNat : Int)), (11, .int .u8 ((l.getD 2 0).toNat : Int))]) (H' := [(b1, .cells #[.int .u8 128, .int .u8 143] 252 (0, 0))] :: H) (fun J => ?_) ?_
        · refine AtL.split (t := 76) rfl ?_ ?_
          · intro hs76
            have hs76 : ((l.getD 2 0).toNat : Int) < 128 := of_decide_eq_true hs76
            refine AtL.skipped rfl rfl rfl rfl rfl rfl ?_
            refine AtL.skipped rfl rfl rfl rfl rfl rfl ?_
            refine AtL.pickT (.inl rfl) rfl rfl rfl ?_
            exact J _ (by exact ⟨(boolIs (by clear J; first | (simp [hs76]; done) | (simp_all; done) | grind)), rfl, rfl, rfl, rfl, rfl, trivial⟩)
          · intro hs76
            have hs76 : ¬ (((l.getD 2 0).toNat : Int) < 128) := of_decide_eq_false hs76
            refine AtL.move (.inr ⟨_, _, _, rfl, rfl, rfl, rfl⟩) rfl rfl ?_
            refine AtL.lss (.inr ⟨_, _, _, rfl, rfl, rfl, rfl⟩) rfl rfl rfl ?_
            refine AtL.pickF (.inl rfl) rfl rfl rfl ?_
            exact J _ (by exact ⟨(boolIs (by clear J; first | (simp [hs76]; done) | (simp_all; done) | grind)), rfl, rfl, rfl, rfl, rfl, trivial⟩)
        · skip
          refine AtL.done ?_
          refine At.cond rfl ?_ ?_
          · intro hc6
            have hc6 : (((l.getD 2 0).toNat : Int) < 128) ∨ (191 < ((l.getD 2 0).toNat : Int)) := of_decide_eq_true hc6
            refine At.seq ?_
            refine At.region ?_
            refine AtL.assign (.inl rfl) rfl rfl ?_
            refine AtL.assign (.inl rfl) rfl rfl ?_
            refine AtL.done ?_
            refine At.pick (H' := H) [] 1 rfl rfl ?_
            exact At.ret Tryz.func225 rfl rfl (⟨_, 1, rfl, ⟨by omega, by omega, fun i h1 h2 => by omega, .inl rfl⟩, rfl⟩)
          · intro hc6
            have hc6 : ¬ ((((l.getD 2 0).toNat : Int) < 128) ∨ (191 < ((l.getD 2 0).toNat : Int))) := of_decide_eq_false hc6
            refine At.skip ?_
            refine At.seq ?_
            refine At.seq ?_
            refine At.region ?_
            refine AtL.move (.inl rfl) rfl rfl ?_
            refine AtL.leq (.inl rfl) rfl rfl rfl ?_
            refine AtL.done ?_
            refine At.condF rfl ?_
            refine At.skip ?_
            refine At.seq ?_
            refine At.region ?_
            refine AtL.move (.inl rfl) rfl rfl ?_
            refine AtL.indexL 3 (Rd.skip 1 h) Tryz.underlying22 tf_sz5 (.inl rfl) rfl rfl rfl rfl (by omega) ?_
            refine AtL.load (v := .int .u8 ((l.getD 3 0).toNat : Int)) tf_flat5 (.inl rfl) rfl rfl (Rd.cell0 (Rd.skip 1 h) (getD_some 0 (by omega)) rfl) ?_
            refine AtL.assign (.inl rfl) rfl rfl ?_
            refine AtL.done ?_
            refine At.seq ?_
            refine At.seq ?_
            refine At.region ?_
            refine AtL.move (.inl rfl) rfl rfl ?_
            refine AtL.lss (.inl rfl) rfl rfl rfl ?_
            refine AtL.move (.inl rfl) rfl rfl ?_
            refine AtL.join 3 (E' := [(103, .bool (decide ((((l.getD 3 0).toNat : Int) < 128) ∨ (191 < ((l.getD 3 0).toNat : Int))))), (5, .int .u8 ((l.getD 0 0).toNat : Int)), (10, .int .u8 ((l.getD 1 0).toNat : Int)), (11, .int .u8 ((l.getD 2 0).toNat : Int)), (12, .int .u8 ((l.getD 3 0).toNat : Int))]) (H' := [(b1, .cells #[.int .u8 128, .int .u8 143] 252 (0, 0))] :: H) (fun J => ?_) ?_
            · refine AtL.split (t := 100) rfl ?_ ?_
              · intro hs100
                have hs100 : ((l.getD 3 0).toNat : Int) < 128 := of_decide_eq_true hs100
                refine AtL.skipped rfl rfl rfl rfl rfl rfl ?_
                refine AtL.skipped rfl rfl rfl rfl rfl rfl ?_
                refine AtL.pickT (.inl rfl) rfl rfl rfl ?_
                exact J _ (by exact ⟨(boolIs (by clear J; first | (simp [hs100]; done) | (simp_all; done) | grind)), rfl, rfl, rfl, rfl, trivial⟩)
              · intro hs100
                have hs100 : ¬ (((l.getD 3 0).toNat : Int) < 128) := of_decide_eq_false hs100
                refine AtL.move (.inr ⟨_, _, _, rfl, rfl, rfl, rfl⟩) rfl rfl ?_
                refine AtL.lss (.inr ⟨_, _, _, rfl, rfl, rfl, rfl⟩) rfl rfl rfl ?_
                refine AtL.pickF (.inl rfl) rfl rfl rfl ?_
                exact J _ (by exact ⟨(boolIs (by clear J; first | (simp [hs100]; done) | (simp_all; done) | grind)), rfl, rfl, rfl, rfl, trivial⟩)
            · skip
              refine AtL.done ?_
              refine At.cond rfl ?_ ?_
              · intro hc8
                have hc8 : (((l.getD 3 0).toNat : Int) < 128) ∨ (191 < ((l.getD 3 0).toNat : Int)) := of_decide_eq_true hc8
                refine At.seq ?_
                refine At.region ?_
                refine AtL.assign (.inl rfl) rfl rfl ?_
                refine AtL.assign (.inl rfl) rfl rfl ?_
                refine AtL.done ?_
                refine At.pick (H' := H) [] 1 rfl rfl ?_
                exact At.ret Tryz.func225 rfl rfl (⟨_, 1, rfl, ⟨by omega, by omega, fun i h1 h2 => by omega, .inl rfl⟩, rfl⟩)
              · intro hc8
                have hc8 : ¬ ((((l.getD 3 0).toNat : Int) < 128) ∨ (191 < ((l.getD 3 0).toNat : Int))) := of_decide_eq_false hc8
                refine At.skip ?_
                refine At.seq ?_
                refine At.region ?_
                refine AtL.move (.inl rfl) rfl rfl ?_
                refine AtL.band (z := ((l.getD 0 0).toNat : Int) % 8) (.inl rfl) rfl rfl rfl (and8 3 (by decide) (by omega) (by omega)) ?_
                refine AtL.convInt (z := ((l.getD 0 0).toNat : Int) % 8) Tryz.underlying5 Tryz.underlying21 (.inl rfl) rfl rfl (w32i (by omega) (by omega)) ?_
                refine AtL.shl (z := (((l.getD 0 0).toNat : Int) % 8) * 262144) (.inl rfl) rfl rfl rfl (by omega) (shl_eq32 _ _ 18 rfl (by decide) _ (by decide) (by omega) (by omega)) ?_
                refine AtL.move (.inl rfl) rfl rfl ?_
                refine AtL.band (z := ((l.getD 1 0).toNat : Int) % 64) (.inl rfl) rfl rfl rfl (and8 6 (by decide) (by omega) (by omega)) ?_
                refine AtL.convInt (z := ((l.getD 1 0).toNat : Int) % 64) Tryz.underlying5 Tryz.underlying21 (.inl rfl) rfl rfl (w32i (by omega) (by omega)) ?_
                refine AtL.shl (z := (((l.getD 1 0).toNat : Int) % 64) * 4096) (.inl rfl) rfl rfl rfl (by omega) (shl_eq32 _ _ 12 rfl (by decide) _ (by decide) (by omega) (by omega)) ?_
                obtain ⟨z2, hz2, hz2a, hz2b, hz2c⟩ := or32 (a := (((l.getD 0 0).toNat : Int) % 8) * 262144) (b := (((l.getD 1 0).toNat : Int) % 64) * 4096) 31 (by decide) (by omega) (by omega) (by omega) (by omega)
                refine AtL.bor (z := z2) (.inl rfl) rfl rfl rfl hz2 ?_
                refine AtL.move (.inl rfl) rfl rfl ?_
                refine AtL.band (z := ((l.getD 2 0).toNat : Int) % 64) (.inl rfl) rfl rfl rfl (and8 6 (by decide) (by omega) (by omega)) ?_
                refine AtL.convInt (z := ((l.getD 2 0).toNat : Int) % 64) Tryz.underlying5 Tryz.underlying21 (.inl rfl) rfl rfl (w32i (by omega) (by omega)) ?_
                refine AtL.shl (z := (((l.getD 2 0).toNat : Int) % 64) * 64) (.inl rfl) rfl rfl rfl (by omega) (shl_eq32 _ _ 6 rfl (by decide) _ (by decide) (by omega) (by omega)) ?_
                obtain ⟨z3, hz3, hz3a, hz3b, hz3c⟩ := or32 (a := z2) (b := (((l.getD 2 0).toNat : Int) % 64) * 64) 31 (by decide) (by omega) (by omega) (by omega) (by omega)
                refine AtL.bor (z := z3) (.inl rfl) rfl rfl rfl hz3 ?_
                refine AtL.move (.inl rfl) rfl rfl ?_
                refine AtL.band (z := ((l.getD 3 0).toNat : Int) % 64) (.inl rfl) rfl rfl rfl (and8 6 (by decide) (by omega) (by omega)) ?_
                refine AtL.convInt (z := ((l.getD 3 0).toNat : Int) % 64) Tryz.underlying5 Tryz.underlying21 (.inl rfl) rfl rfl (w32i (by omega) (by omega)) ?_
                obtain ⟨z4, hz4, hz4a, hz4b, hz4c⟩ := or32 (a := z3) (b := ((l.getD 3 0).toNat : Int) % 64) 31 (by decide) (by omega) (by omega) (by omega) (by omega)
                refine AtL.bor (z := z4) (.inl rfl) rfl rfl rfl hz4 ?_
                refine AtL.assign (.inl rfl) rfl rfl ?_
                refine AtL.assign (.inl rfl) rfl rfl ?_
                refine AtL.done ?_
                refine At.pick (H' := H) [] 1 rfl rfl ?_
                exact At.ret Tryz.func225 rfl rfl (⟨_, 4, rfl, ⟨by omega, by omega, fun i h1 h2 => (by rcases (show i = 1 ∨ i = 2 ∨ i = 3 by omega) with rfl | rfl | rfl <;> omega), .inr (.inr (.inr ⟨rfl, by omega, by omega⟩))⟩, rfl⟩)
theorem first_caseF : ∀ q : Fin 256, 128 ≤ q.val → Lib.firstT q.val = 241 ∨ (Lib.firstT q.val = 2 ∧ 194 ≤ q.val ∧ q.val < 224) ∨ (Lib.firstT q.val = 19 ∧ q.val = 224) ∨ (Lib.firstT q.val = 3 ∧ 225 ≤ q.val ∧ q.val < 240) ∨ (Lib.firstT q.val = 35 ∧ q.val = 237) ∨ (Lib.firstT q.val = 52 ∧ q.val = 240) ∨ (Lib.firstT q.val = 4 ∧ 241 ≤ q.val ∧ q.val < 244) ∨ (Lib.firstT q.val = 68 ∧ q.val = 244) := by
  decide +kernel
theorem first_case (b : Nat) (h : b < 256) (h128 : 128 ≤ b) : Lib.firstT b = 241 ∨ (Lib.firstT b = 2 ∧ 194 ≤ b ∧ b < 224) ∨ (Lib.firstT b = 19 ∧ b = 224) ∨ (Lib.firstT b = 3 ∧ 225 ≤ b ∧ b < 240) ∨ (Lib.firstT b = 35 ∧ b = 237) ∨ (Lib.firstT b = 52 ∧ b = 240) ∨ (Lib.firstT b = 4 ∧ 241 ≤ b ∧ b < 244) ∨ (Lib.firstT b = 68 ∧ b = 244) := first_caseF ⟨b, h⟩ h128
theorem slow_ok {w0 : World} {base : Nat} {H : List Seg} {A : Option Addr} {C : Nat} {l : List UInt8} (h : Rd tyB w0 base H A C l) (T : Tabs w0 base) (hl : l ≠ []) (h128 : 128 ≤ (l.getD 0 0).toNat) :
    SCalls Tryz.prog 225 [.slice A l.length C] w0 base H (fun v H' => ∃ (r : Int) (n : Nat), v = .tuple #[.int .i32 r, int (n : Int)] ∧ decOk l r n ∧ H' = H) := by
  rcases first_case _ (l.getD 0 0).toNat_lt h128 with hx | ⟨hx, hp⟩ | ⟨hx, hp⟩ | ⟨hx, hp⟩ | ⟨hx, hp⟩ | ⟨hx, hp⟩ | ⟨hx, hp⟩ | ⟨hx, hp⟩
  · exact slow_241 h T hl (by rw [hx]; rfl)
  · exact slow_2 h T hl (by rw [hx]; rfl) hp
  · exact slow_19 h T hl (by rw [hx]; rfl) hp
  · exact slow_3 h T hl (by rw [hx]; rfl) hp
  · exact slow_35 h T hl (by rw [hx]; rfl) hp
  · exact slow_52 h T hl (by rw [hx]; rfl) hp
  · exact slow_4 h T hl (by rw [hx]; rfl) hp
  · exact slow_68 h T hl (by rw [hx]; rfl) hp
set_option maxHeartbeats 400000 in
theorem decode_ok {w0 : World} {base : Nat} {H : List Seg} {A : Option Addr} {C : Nat} {l : List UInt8} (h : Rd tyB w0 base H A C l) (T : Tabs w0 base) (hl : l ≠ []) (h128 : 128 ≤ (l.getD 0 0).toNat) :
    SCalls Tryz.prog 212 [.slice A l.length C] w0 base (H) (fun v H' => ∃ (r : Int) (n : Nat), v = .tuple #[.int .i32 r, int (n : Int)] ∧ decOk l r n ∧ H' = H) := by
  have hpos := List.length_pos_iff.2 hl
  have hcap := h.cap
  have hle := h.le
  refine SCalls.of_walk (n := 22) Tryz.func212 rfl rfl rfl fun cs => ?_
  refine At.seq ?_
  refine At.region ?_
  refine AtL.assign (.inl rfl) rfl rfl ?_
  refine AtL.assign (.inl rfl) rfl rfl ?_
  refine AtL.done ?_
  refine At.seq ?_
  refine At.seq ?_
  refine At.region ?_
  refine AtL.move (.inl rfl) rfl rfl ?_
  refine AtL.lenL Tryz.underlying22 (.inl rfl) rfl rfl ?_
  refine AtL.move (.inl rfl) rfl rfl ?_
  refine AtL.done ?_
  refine At.block ?_
  refine At.unroll ?_
  refine At.seq ?_
  refine At.region ?_
  refine AtL.lss (.inl rfl) rfl rfl rfl ?_
  refine AtL.done ?_
  refine At.seq ?_
  refine At.condIs true rfl (decide_eq_true (by omega)) ?_
  refine At.skip ?_
  refine At.seq ?_
  refine At.block ?_
  refine At.seq ?_
  refine At.region ?_
  refine AtL.indexL 0 h Tryz.underlying22 tf_sz5 (.inl rfl) rfl rfl rfl rfl (by omega) ?_
  refine AtL.load (v := .int .u8 ((l.getD 0 0).toNat : Int)) tf_flat5 (.inl rfl) rfl rfl (Rd.cell0 h (getD_some 0 (by omega)) rfl) ?_
  refine AtL.assign (.inl rfl) rfl rfl ?_
  refine AtL.done ?_
  refine At.seq ?_
  refine At.seq ?_
  refine At.region ?_
  refine AtL.move (.inl rfl) rfl rfl ?_
  refine AtL.lss (.inl rfl) rfl rfl rfl ?_
  refine AtL.done ?_
  refine At.condIs false rfl (decide_eq_false (by omega)) ?_
  refine At.skip ?_
  refine At.exit rfl ?_
  refine At.seq ?_
  refine At.region ?_
  refine AtL.move (.inl rfl) rfl rfl ?_
  refine AtL.call tf_body225 (.inl rfl) rfl rfl (slow_ok (l := l) h T hl h128) ?_
  rintro _ _ ⟨r1, n2, rfl, hd3, hHq⟩
  obtain rfl := hHq.symm
  refine AtL.move (.inl rfl) rfl rfl ?_
  refine AtL.extract (.inl rfl) rfl rfl rfl ?_
  refine AtL.extract (.inl rfl) rfl rfl rfl ?_
  refine AtL.assign (.inl rfl) rfl rfl ?_
  refine AtL.assign (.inl rfl) rfl rfl ?_
  refine AtL.done ?_
  exact At.ret Tryz.func212 rfl rfl (⟨_, _, rfl, hd3, rfl⟩)
def ncr (c : UInt8) : Bool := !crlf c
theorem ncr_128 {c : UInt8} (h : 128 ≤ c.toNat) : ncr c = true := by
  have h1 : ¬ c = 13 := by rintro rfl; exact absurd h (by decide)
  have h2 : ¬ c = 10 := by rintro rfl; exact absurd h (by decide)
  simp [ncr, crlf, h1, h2]
theorem any_ncr (l : List UInt8) : l.any crlf = !l.all ncr := by
  have : ncr = fun c => !crlf c := rfl
  rw [this]
  induction l with
  | nil => rfl
  | cons c l ih => simp [ih, Bool.not_and]
def two (c : UInt8) : Int := Lib.indexByte [13, 10] c
theorem two_neg (c : UInt8) : decide (0 ≤ two c) = crlf c := by
  unfold two
  rw [Bool.eq_iff_iff]
  simp only [Lib.indexByte, crlf, decide_eq_true_eq, Bool.or_eq_true]
  by_cases h1 : c = 13
  · subst h1; simp
  · by_cases h2 : c = 10
    · subst h2; decide
    · have h3 : ¬ ((13 : UInt8) == c) = true := by simpa using fun h : (13 : UInt8) = c => h1 h.symm
      have h4 : ¬ ((10 : UInt8) == c) = true := by simpa using fun h : (10 : UInt8) = c => h2 h.symm
      simp [h1, h2, h3, h4]
theorem take_more {l : List UInt8} {i n : Nat} (h : i + n ≤ l.length) (ha : (l.take i).all ncr = true) (hn : ∀ j, j < n → ncr (l.getD (i + j) 0) = true) : (l.take (i + n)).all ncr = true := by
  induction n with
  | zero => exact ha
  | succ n ih => exact all_step (k := i + n) (by omega) (ih (by omega) (fun j hj => hn j (by omega))) (hn n (by omega))
theorem take_dec {l : List UInt8} {k n : Nat} (hk : k < l.length) (h0 : 128 ≤ (l.getD k 0).toNat) (hb : n ≤ (subl l k l.length).length) (hc : ∀ i, 1 ≤ i → i < n → 128 ≤ ((subl l k l.length).getD i 0).toNat) (ha : (l.take k).all ncr = true) : (l.take (k + n)).all ncr = true := by
  have hl := subl_len (l := l) (i := k) (j := l.length) (Nat.le_refl _)
  refine take_more (by omega) ha fun j hj => ?_
  rcases Nat.eq_zero_or_pos j with h | h
  · subst h; exact ncr_128 h0
  · have := hc j h hj
    rw [subl_gets (by omega)] at this
    exact ncr_128 this
theorem letA_two : ((List.replicate 256 false).set 13 true).set 10 true = letA [13, 10] := by decide +kernel
theorem two_crlf (c : UInt8) : (letA [13, 10]).getD c.toNat false = crlf c := by
  rw [letA_get]
  simp [crlf]
set_option maxHeartbeats 400000 in
theorem useset_ok {w0 : World} {base : Nat} {H : List Seg} (n : Int) :
    SCalls Tryz.prog 209 [.int .i64 n] w0 base (H) (fun v H' => v = .bool (decide (8 < n)) ∧ H' = H) := by
  refine SCalls.of_walk (n := 5) Tryz.func209 rfl rfl rfl fun cs => ?_
  refine At.seq ?_
  refine At.region ?_
  refine AtL.assign (.inl rfl) rfl rfl ?_
  refine AtL.done ?_
  refine At.seq ?_
  refine At.region ?_
  refine AtL.move (.inl rfl) rfl rfl ?_
  refine AtL.gtr (.inl rfl) rfl rfl rfl ?_
  refine AtL.assign (.inl rfl) rfl rfl ?_
  refine AtL.done ?_
  exact At.ret Tryz.func209 rfl rfl (⟨rfl, rfl⟩)
set_option maxHeartbeats 400000 in
theorem makeset_ok {w0 : World} {base : Nat} {H : List Seg}  :
    SCalls Tryz.prog 210 [str ([13, 10] : List UInt8)] w0 base (H) (fun v H' => v = .tuple #[.agg (tyBool.cells (letA [13, 10])).toArray, .bool true] ∧ H' = H) := by
  have h2l : ([13, 10] : List UInt8).length = 2 := rfl
  refine SCalls.of_walk (n := 21) Tryz.func210 rfl rfl rfl fun cs => ?_
  refine At.seq ?_
  refine At.region ?_
  refine AtL.allocArr tyBool (l := List.replicate 256 false) tf_zero245 tf_zarr245 (by simp) (.inl rfl) rfl ?_
  intro b1 s2 o3
  rw [List.length_replicate] at o3
  refine AtL.assign (.inl rfl) rfl rfl ?_
  refine AtL.done ?_
  refine At.seq ?_
  refine At.seq ?_
  refine At.region ?_
  refine AtL.assign (.inl rfl) rfl rfl ?_
  refine AtL.done ?_
  refine At.block ?_
  refine At.unroll ?_
  refine At.seq ?_
  refine At.seq ?_
  refine At.region ?_
  refine AtL.move (.inl rfl) rfl rfl ?_
  refine AtL.move (.inl rfl) rfl rfl ?_
  refine AtL.lenS (l := ([13, 10] : List UInt8)) Tryz.underlying9 (.inl rfl) rfl rfl ?_
  refine AtL.lss (.inl rfl) rfl rfl rfl ?_
  refine AtL.done ?_
  refine At.condIs true rfl rfl ?_
  refine At.skip ?_
  refine At.seq ?_
  refine At.block ?_
  refine At.seq ?_
  refine At.region ?_
  refine AtL.move (.inl rfl) rfl rfl ?_
  refine AtL.move (.inl rfl) rfl rfl ?_
  refine AtL.indexS (l := ([13, 10] : List UInt8)) 0 rfl (by omega) Tryz.underlying9 (.inl rfl) rfl rfl rfl ?_
  refine AtL.assign (.inl rfl) rfl rfl ?_
  refine AtL.done ?_
  refine At.seq ?_
  refine At.seq ?_
  refine At.region ?_
  refine AtL.move (.inl rfl) rfl rfl ?_
  refine AtL.geq (.inl rfl) rfl rfl rfl ?_
  refine AtL.done ?_
  refine At.condIs false rfl (by decide) ?_
  refine At.skip ?_
  refine At.region ?_
  refine AtL.move (.inl rfl) rfl rfl ?_
  refine AtL.indexArr 13 Tryz.underlying245 tf_sz4 (.inl rfl) rfl rfl rfl (by decide) (by decide) ?_
  refine AtL.setIdx (u := true) 0 13 tf_sz4 rfl o3 (by decide) (.inl rfl) rfl rfl ?_
  intro s4 o5
  refine AtL.done ?_
  refine At.inBlock ?_
  refine At.region ?_
  refine AtL.move (.inl rfl) rfl rfl ?_
  refine AtL.add (z := 1) (.inl rfl) rfl rfl rfl (by decide) ?_
  refine AtL.assign (.inl rfl) rfl rfl ?_
  refine AtL.done ?_
  refine At.again ?_
  refine At.seq ?_
  refine At.seq ?_
  refine At.region ?_
  refine AtL.move (.inl rfl) rfl rfl ?_
  refine AtL.move (.inl rfl) rfl rfl ?_
  refine AtL.lenS (l := ([13, 10] : List UInt8)) Tryz.underlying9 (.inl rfl) rfl rfl ?_
  refine AtL.lss (.inl rfl) rfl rfl rfl ?_
  refine AtL.done ?_
  refine At.condIs true rfl rfl ?_
  refine At.skip ?_
  refine At.seq ?_
  refine At.block ?_
  refine At.seq ?_
  refine At.region ?_
  refine AtL.move (.inl rfl) rfl rfl ?_
  refine AtL.move (.inl rfl) rfl rfl ?_
  refine AtL.indexS (l := ([13, 10] : List UInt8)) 1 rfl (by omega) Tryz.underlying9 (.inl rfl) rfl rfl rfl ?_
  refine AtL.assign (.inl rfl) rfl rfl ?_
  refine AtL.done ?_
  refine At.seq ?_
  refine At.seq ?_
  refine At.region ?_
  refine AtL.move (.inl rfl) rfl rfl ?_
  refine AtL.geq (.inl rfl) rfl rfl rfl ?_
  refine AtL.done ?_
  refine At.condIs false rfl (by decide) ?_
  refine At.skip ?_
  refine At.region ?_
  refine AtL.move (.inl rfl) rfl rfl ?_
  refine AtL.indexArr 10 Tryz.underlying245 tf_sz4 (.inl rfl) rfl rfl rfl (by decide) (by decide) ?_
  refine AtL.setIdx (u := true) 0 10 tf_sz4 rfl o5 (by decide) (.inl rfl) rfl rfl ?_
  intro s6 o7
  refine AtL.done ?_
  refine At.inBlock ?_
  refine At.region ?_
  refine AtL.move (.inl rfl) rfl rfl ?_
  refine AtL.add (z := 2) (.inl rfl) rfl rfl rfl (by decide) ?_
  refine AtL.assign (.inl rfl) rfl rfl ?_
  refine AtL.done ?_
  refine At.again ?_
  refine At.seq ?_
  refine At.seq ?_
  refine At.region ?_
  refine AtL.move (.inl rfl) rfl rfl ?_
  refine AtL.move (.inl rfl) rfl rfl ?_
  refine AtL.lenS (l := ([13, 10] : List UInt8)) Tryz.underlying9 (.inl rfl) rfl rfl ?_
  refine AtL.lss (.inl rfl) rfl rfl rfl ?_
  refine AtL.done ?_
  refine At.condIs false rfl rfl ?_
  refine At.exit rfl ?_
  refine At.seq ?_
  refine At.region ?_
  refine AtL.loadArr (o7.rd (i := 0) rfl) tf_agg245 (by simp [Ty.cells_len, tyBool]) (.inl rfl) rfl rfl ?_
  refine AtL.storeArr (T := tyBool) (l' := ((List.replicate 256 false).set 13 true).set 10 true) 0 tf_sz245 rfl o7 rfl rfl (by simp [Ty.cells_len, tyBool]) (.inl rfl) rfl rfl ?_
  intro s8 o9
  refine AtL.assign (.inl rfl) rfl rfl ?_
  refine AtL.done ?_
  exact At.retMP (vs := [.agg (tyBool.cells (((List.replicate 256 false).set 13 true).set 10 true)).toArray, .bool true]) (H2 := H) [] 1 rfl rfl Tryz.func210 rfl ⟨⟨_, rfl, LoadsTo.arr (o9.rd (i := 0) rfl) tf_agg245 (by simp [Ty.cells_len, tyBool, letA_len])⟩, rfl, trivial⟩ (⟨congrArg (fun l => Value.tuple #[.agg (tyBool.cells l).toArray, .bool true]) letA_two, rfl⟩)
set_option maxHeartbeats 400000 in
theorem inset_ok {w0 : World} {base : Nat} {H : List Seg} {b C : Nat} (h : Rd tyBool w0 base H (some ⟨b, 0, none⟩) C (letA [13, 10])) (c : UInt8) :
    SCalls Tryz.prog 211 [.pointer (some ⟨b, 0, none⟩), .int .u8 (c.toNat : Int)] w0 base (H) (fun v H' => v = .bool (crlf c) ∧ H' = H) := by
  refine SCalls.of_walk (n := 10) Tryz.func211 rfl rfl rfl fun cs => ?_
  refine At.seq ?_
  refine At.region ?_
  refine AtL.assign (.inl rfl) rfl rfl ?_
  refine AtL.done ?_
  refine At.seq ?_
  refine At.region ?_
  refine AtL.move (.inl rfl) rfl rfl ?_
  refine AtL.move (.inl rfl) rfl rfl ?_
  refine AtL.nilCheck (.inl rfl) rfl rfl ?_
  refine AtL.indexArr c.toNat Tryz.underlying245 tf_sz4 (.inl rfl) rfl rfl rfl rfl c.toNat_lt ?_
  refine AtL.load (v := .bool ((letA [13, 10]).getD c.toNat false)) tf_flat4 (.inl rfl) rfl rfl (Rd.cell0 h (getD_some false (by rw [letA_len]; exact c.toNat_lt)) rfl) ?_
  refine AtL.assign (.inl rfl) rfl rfl ?_
  refine AtL.done ?_
  exact At.ret Tryz.func211 rfl rfl (⟨congrArg Value.bool (two_crlf c), rfl⟩)
theorem ibs_run (c : UInt8) (w : World) : (callFunc 193 #[str [13, 10], byt c]).run Tryz.prog w = .ok (.value (int (two c))) w := by
  rw [run_callFunc_extern Tryz.func193 (by kernel_rfl) (by kernel_rfl) (by kernel_rfl) (e := Extern.BytealgIndexByte.indexByte) (by kernel_rfl)]
  have := Lib.run_indexByteString (P := Tryz.prog) ⟨⟨[13, 10]⟩⟩ (c.toNat : Int) w
  simp only [Sem.run_bind, str, byt]
  rw [this]
  have e : ((c.toNat : Int).toNat.toUInt8) = c := by simp
  rw [e]
  rfl
theorem index_two {s : List UInt8} (h : 3 ≤ s.length) : Lib.index [13, 10] s = -1 := by
  have h1 := Lib.index_ge [13, 10] s
  by_cases h2 : 0 ≤ Lib.index [13, 10] s
  · have h3 := Lib.index_room [13, 10] s h2
    simp at h3
    omega
  · omega
theorem ixs_run {w0 : World} {base : Nat} {H : List Seg} {m : Int} (hb : 0 < base) (hm : w0.cell? ⟨0, 0, none⟩ = some (int m)) {s : List UInt8} (h3 : 3 ≤ s.length) (h4 : (s.length : Int) ≤ m) (w : World) (S : Sep w0 base w H) : (callFunc 164 #[str [13, 10], str s]).run Tryz.prog w = .ok (.value (int (-1))) w := by
  rw [run_callFunc_extern Tryz.func164 (by kernel_rfl) (by kernel_rfl) (by kernel_rfl) (e := Extern.BytealgIndex.index) (by kernel_rfl)]
  have := Lib.run_indexString (P := Tryz.prog) ⟨⟨[13, 10]⟩⟩ ⟨⟨s⟩⟩ w 0 m (by kernel_rfl) (S.cellBelow hb hm) (by rw [str_size]; omega) (by rw [str_size]; omega) (by decide)
  simp only [str]
  rw [this, index_two h3]
  rfl
theorem any_no {l : List UInt8} (h : l.all ncr = true) : decide (0 ≤ (-1 : Int)) = l.any crlf := by rw [any_ncr, h]; rfl
theorem any_yes {l : List UInt8} {k : Nat} (hk : k < l.length) (h : crlf (l.getD k 0) = true) {z : Int} (hz : 0 ≤ z) : decide (0 ≤ z) = l.any crlf := by
  rw [any_ncr, all_bad hk (by rw [ncr, h]; rfl), decide_eq_true hz]; rfl
theorem ncr_two {c : UInt8} (h : ¬ 0 ≤ two c) : ncr c = true := by
  have := two_neg c
  rw [decide_eq_false h] at this
  rw [ncr, ← this]; rfl
theorem crlf_two {c : UInt8} (h : 0 ≤ two c) : crlf c = true := by
  have := two_neg c
  rw [decide_eq_true h] at this
  exact this.symm
set_option maxHeartbeats 400000 in
theorem indexany_ok {w0 : World} {base : Nat} {H : List Seg} {A : Option Addr} {C : Nat} {l : List UInt8} (h : Rd tyB w0 base H A C l) (T : Tabs w0 base) :
    SCalls Tryz.prog 182 [.slice A l.length C, str [13, 10]] w0 base (H) (fun v H' => ∃ z : Int, v = int z ∧ decide (0 ≤ z) = l.any crlf ∧ H' = H) := by
  have hcap := h.cap
  have hle := h.le
  have h2l : ([13, 10] : List UInt8).length = 2 := rfl
  obtain ⟨m, hm⟩ := T.max
  refine SCalls.of_walk (n := 129) Tryz.func182 rfl rfl rfl fun cs => ?_
  refine At.seq ?_
  refine At.region ?_
  refine AtL.assign (.inl rfl) rfl rfl ?_
  refine AtL.done ?_
  refine At.seq ?_
  refine At.seq ?_
  refine At.region ?_
  refine AtL.move (.inl rfl) rfl rfl ?_
  refine AtL.eqs (a := [13, 10]) (b := []) (.inl rfl) rfl rfl rfl ?_
  refine AtL.done ?_
  refine At.condIs false rfl (by decide) ?_
  refine At.skip ?_
  refine At.seq ?_
  refine At.seq ?_
  refine At.region ?_
  refine AtL.move (.inl rfl) rfl rfl ?_
  refine AtL.lenL Tryz.underlying22 (.inl rfl) rfl rfl ?_
  refine AtL.eqi (.inl rfl) rfl rfl rfl ?_
  refine AtL.done ?_
  refine At.cond rfl ?_ ?_
  · intro hc2
    have hc2 : (l.length : Int) = 1 := of_decide_eq_true hc2
    refine At.seq ?_
    refine At.region ?_
    refine AtL.move (.inl rfl) rfl rfl ?_
    refine AtL.indexL 0 h Tryz.underlying22 tf_sz5 (.inl rfl) rfl rfl rfl rfl (by omega) ?_
    refine AtL.load (v := .int .u8 ((l.getD 0 0).toNat : Int)) tf_flat5 (.inl rfl) rfl rfl (Rd.cell0 h (getD_some 0 (by omega)) rfl) ?_
    have hB1 := u8_le ((l.getD 0 0))
    refine AtL.convInt (z := ((l.getD 0 0).toNat : Int)) Tryz.underlying5 Tryz.underlying21 (.inl rfl) rfl rfl (w32i (by omega) (by omega)) ?_
    refine AtL.assign (.inl rfl) rfl rfl ?_
    refine AtL.done ?_
    refine At.seq ?_
    refine At.seq ?_
    refine At.region ?_
    refine AtL.move (.inl rfl) rfl rfl ?_
    refine AtL.geq (.inl rfl) rfl rfl rfl ?_
    refine AtL.done ?_
    refine At.cond rfl ?_ ?_
    · intro hc3
      have hc3 : 128 ≤ ((l.getD 0 0).toNat : Int) := of_decide_eq_true hc3
      refine At.seq ?_
      refine At.seq ?_
      refine At.region ?_
      refine AtL.move (.inl rfl) rfl rfl ?_
      refine AtL.rangeS Tryz.underlying9 (.inl rfl) rfl rfl ?_
      intro b2
      refine AtL.done ?_
      refine At.block ?_
      refine At.unroll ?_
      refine At.seq ?_
      refine At.region ?_
      refine AtL.nextS (p := 0) (n := 1) (c := 13) (l := [13, 10]) (H' := [(b2, .stringIter ⟨⟨[13, 10]⟩⟩ 1)] :: H) 0 0 (.inl rfl) rfl rfl rfl rfl rfl (by decide) rfl ?_
      refine AtL.extract (.inl rfl) rfl rfl rfl ?_
      refine AtL.done ?_
      refine At.seq ?_
      refine At.condT rfl ?_
      refine At.skip ?_
      refine At.block ?_
      refine At.seq ?_
      refine At.region ?_
      refine AtL.extract (.inl rfl) rfl rfl rfl ?_
      refine AtL.assign (.inl rfl) rfl rfl ?_
      refine AtL.done ?_
      refine At.seq ?_
      refine At.region ?_
      refine AtL.move (.inl rfl) rfl rfl ?_
      refine AtL.eqi (.inl rfl) rfl rfl rfl ?_
      refine AtL.done ?_
      refine At.condF rfl ?_
      refine At.skip ?_
      refine At.inBlock ?_
      refine At.again ?_
      refine At.seq ?_
      refine At.region ?_
      refine AtL.nextS (p := 1) (n := 1) (c := 10) (l := [13, 10]) (H' := [(b2, .stringIter ⟨⟨[13, 10]⟩⟩ 2)] :: H) 0 0 (.inl rfl) rfl rfl rfl rfl rfl (by decide) rfl ?_
      refine AtL.extract (.inl rfl) rfl rfl rfl ?_
      refine AtL.done ?_
      refine At.seq ?_
      refine At.condT rfl ?_
      refine At.skip ?_
      refine At.block ?_
      refine At.seq ?_
      refine At.region ?_
      refine AtL.extract (.inl rfl) rfl rfl rfl ?_
      refine AtL.assign (.inl rfl) rfl rfl ?_
      refine AtL.done ?_
      refine At.seq ?_
      refine At.region ?_
      refine AtL.move (.inl rfl) rfl rfl ?_
      refine AtL.eqi (.inl rfl) rfl rfl rfl ?_
      refine AtL.done ?_
      refine At.condF rfl ?_
      refine At.skip ?_
      refine At.inBlock ?_
      refine At.again ?_
      refine At.seq ?_
      refine At.region ?_
      refine AtL.nextOver (p := 2) (l := [13, 10]) 0 0 (.inl rfl) rfl rfl rfl rfl rfl ?_
      refine AtL.extract (.inl rfl) rfl rfl rfl ?_
      refine AtL.done ?_
      refine At.seq ?_
      refine At.condF rfl ?_
      refine At.exit rfl ?_
      refine At.seq ?_
      refine At.region ?_
      refine AtL.assign (.inl rfl) rfl rfl ?_
      refine AtL.done ?_
      refine At.pick (H' := H) [] 1 rfl rfl ?_
      exact At.ret Tryz.func182 rfl rfl (⟨_, rfl, any_no (all_end (k := 1) (by omega) (all_step (k := 0) (by omega) rfl (ncr_128 (by omega)))), rfl⟩)
    · intro hc3
      have hc3 : ¬ (128 ≤ ((l.getD 0 0).toNat : Int)) := of_decide_eq_false hc3
      refine At.skip ?_
      refine At.seq ?_
      refine At.seq ?_
      refine At.region ?_
      refine AtL.move (.inl rfl) rfl rfl ?_
      refine AtL.move (.inl rfl) rfl rfl ?_
      refine AtL.indexL 0 h Tryz.underlying22 tf_sz5 (.inl rfl) rfl rfl rfl rfl (by omega) ?_
      refine AtL.load (v := .int .u8 ((l.getD 0 0).toNat : Int)) tf_flat5 (.inl rfl) rfl rfl (Rd.cell0 h (getD_some 0 (by omega)) rfl) ?_
      refine AtL.callX (v := .int .i64 (two (l.getD 0 0))) (fun w S => ibs_run _ w) (.inl rfl) rfl rfl ?_
      refine AtL.geq (.inl rfl) rfl rfl rfl ?_
      refine AtL.done ?_
      refine At.cond rfl ?_ ?_
      · intro hc6
        have hc6 : 0 ≤ (two (l.getD 0 0) : Int) := of_decide_eq_true hc6
        refine At.seq ?_
        refine At.region ?_
        refine AtL.assign (.inl rfl) rfl rfl ?_
        refine AtL.done ?_
        exact At.ret Tryz.func182 rfl rfl (⟨_, rfl, any_yes (k := 0) (by omega) (crlf_two hc6) (by omega), rfl⟩)
      · intro hc6
        have hc6 : ¬ (0 ≤ (two (l.getD 0 0) : Int)) := of_decide_eq_false hc6
        refine At.skip ?_
        refine At.seq ?_
        refine At.region ?_
        refine AtL.assign (.inl rfl) rfl rfl ?_
        refine AtL.done ?_
        exact At.ret Tryz.func182 rfl rfl (⟨_, rfl, any_no (all_end (k := 1) (by omega) (all_step (k := 0) (by omega) rfl (ncr_two hc6))), rfl⟩)
  · intro hc2
    have hc2 : ¬ ((l.length : Int) = 1) := of_decide_eq_false hc2
    refine At.skip ?_
    refine At.seq ?_
    refine At.seq ?_
    refine At.region ?_
    refine AtL.move (.inl rfl) rfl rfl ?_
    refine AtL.lenS (l := [13, 10]) Tryz.underlying9 (.inl rfl) rfl rfl ?_
    refine AtL.eqi (.inl rfl) rfl rfl rfl ?_
    refine AtL.done ?_
    refine At.condIs false rfl (by decide) ?_
    refine At.skip ?_
    refine At.seq ?_
    refine At.seq ?_
    refine At.region ?_
    refine AtL.move (.inl rfl) rfl rfl ?_
    refine AtL.lenL Tryz.underlying22 (.inl rfl) rfl rfl ?_
    refine AtL.call tf_body209 (.inl rfl) rfl rfl (useset_ok (l.length : Int)) ?_
    rintro _ _ ⟨rfl, hHq⟩
    obtain rfl := hHq.symm
    refine AtL.done ?_
    refine At.cond rfl ?_ ?_
    · intro hc9
      have hc9 : 8 < (l.length : Int) := of_decide_eq_true hc9
      refine At.seq ?_
      refine At.region ?_
      refine AtL.move (.inl rfl) rfl rfl ?_
      refine AtL.call tf_body210 (.inl rfl) rfl rfl makeset_ok ?_
      rintro _ _ ⟨rfl, hHq⟩
      obtain rfl := hHq.symm
      refine AtL.move (.inl rfl) rfl rfl ?_
      refine AtL.extract (.inl rfl) rfl rfl rfl ?_
      refine AtL.extract (.inl rfl) rfl rfl rfl ?_
      refine AtL.allocArr tyBool (l := List.replicate 256 false) tf_zero245 tf_zarr245 (by simp) (.inl rfl) rfl ?_
      intro b3 s4 o5
      rw [List.length_replicate] at o5
      refine AtL.storeArr (T := tyBool) (l' := letA [13, 10]) 0 tf_sz245 rfl o5 (by simp [letA_len]) rfl (by simp [Ty.cells_len, tyBool, letA_len]) (.inl rfl) rfl rfl ?_
      intro s6 o7
      refine AtL.assign (.inl rfl) rfl rfl ?_
      refine AtL.done ?_
      refine At.seq ?_
      refine At.region ?_
      refine AtL.move (.inl rfl) rfl rfl ?_
      refine AtL.done ?_
      refine At.condT rfl ?_
      refine At.seq ?_
      refine At.seq ?_
      refine At.region ?_
      refine AtL.move (.inl rfl) rfl rfl ?_
      refine AtL.lenL Tryz.underlying22 (.inl rfl) rfl rfl ?_
      refine AtL.move (.inl rfl) rfl rfl ?_
      refine AtL.done ?_
      refine At.block ?_
      refine At.loop (fun (k : Nat) => [(7, .pointer (some ⟨b3, 0, none⟩)), (60, .slice A l.length C), (61, .int .i64 (l.length : Int)), (62, .int .i64 (k : Int))]) (fun (k : Nat) => s6 :: H) (fun (k : Nat) => k ≤ l.length ∧ (l.take k).all ncr = true) (fun (k : Nat) => l.length - k) 0 (⟨Nat.zero_le _, rfl⟩) ⟨rfl, rfl, rfl, rfl, trivial⟩ rfl ?_
      rintro k ⟨hk, ha⟩ ihL2
      refine At.seq ?_
      refine At.region ?_
      refine AtL.lss (.inl rfl) rfl rfl rfl ?_
      refine AtL.done ?_
      refine At.seq ?_
      refine At.cond rfl ?_ ?_
      · intro hc11
        have hc11 : (k : Int) < (l.length : Int) := of_decide_eq_true hc11
        refine At.skip ?_
        refine At.seq ?_
        refine At.block ?_
        refine At.seq ?_
        refine At.region ?_
        refine AtL.move (.inl rfl) rfl rfl ?_
        refine AtL.indexL k (Rd.skip 1 h) Tryz.underlying22 tf_sz5 (.inl rfl) rfl rfl rfl rfl (by omega) ?_
        refine AtL.load (v := .int .u8 ((l.getD k 0).toNat : Int)) tf_flat5 (.inl rfl) rfl rfl (Rd.cell0 (Rd.skip 1 h) (getD_some 0 (by omega)) rfl) ?_
        refine AtL.assign (.inl rfl) rfl rfl ?_
        refine AtL.assign (.inl rfl) rfl rfl ?_
        refine AtL.done ?_
        refine At.seq ?_
        refine At.region ?_
        refine AtL.move (.inl rfl) rfl rfl ?_
        refine AtL.call tf_body211 (.inl rfl) rfl rfl (inset_ok (o7.rd (i := 0) rfl) (l.getD k 0)) ?_
        rintro _ _ ⟨rfl, rfl⟩
        refine AtL.done ?_
        refine At.cond rfl ?_ ?_
        · intro hc12
          have hc12 : (crlf (l.getD k 0)) = true := hc12
          refine At.seq ?_
          refine At.region ?_
          refine AtL.move (.inl rfl) rfl rfl ?_
          refine AtL.assign (.inl rfl) rfl rfl ?_
          refine AtL.done ?_
          refine At.pick (H' := H) [] 1 rfl rfl ?_
          exact At.ret Tryz.func182 rfl rfl (⟨_, rfl, any_yes (k := k) (by omega) hc12 (by omega), rfl⟩)
        · intro hc12
          have hc12 : (crlf (l.getD k 0)) = false := hc12
          refine At.skip ?_
          refine At.inBlock ?_
          refine At.region ?_
          refine AtL.add (z := (k : Int) + 1) (.inl rfl) rfl rfl rfl (w64 (by omega) (by omega)) ?_
          refine AtL.move (.inl rfl) rfl rfl ?_
          refine AtL.done ?_
          refine ihL2 (k + 1) (⟨by omega, all_step (by omega) ha (by rw [ncr, hc12]; rfl)⟩) (by omega) _ ?_
          exact ⟨rfl, rfl, rfl, (by first | rfl | exact slLen (by simp []) | exact intEq (by omega) | exact intEq (by simp []) | exact slLen (by simp []; omega)), trivial⟩
      · intro hc11
        have hc11 : ¬ ((k : Int) < (l.length : Int)) := of_decide_eq_false hc11
        refine At.exit rfl ?_
        refine At.seq ?_
        refine At.region ?_
        refine AtL.assign (.inl rfl) rfl rfl ?_
        refine AtL.done ?_
        refine At.pick (H' := H) [] 1 rfl rfl ?_
        exact At.ret Tryz.func182 rfl rfl (⟨_, rfl, any_no (all_end (k := k) (by omega) ha), rfl⟩)
    · intro hc9
      have hc9 : ¬ (8 < (l.length : Int)) := of_decide_eq_false hc9
      refine At.skip ?_
      refine At.seq ?_
      refine At.region ?_
      refine AtL.assign (.inl rfl) rfl rfl ?_
      refine AtL.done ?_
      refine At.seq ?_
      refine At.seq ?_
      refine At.region ?_
      refine AtL.assign (.inl rfl) rfl rfl ?_
      refine AtL.done ?_
      refine At.block ?_
      refine At.loop (fun (k : Nat) => [(0, .slice A l.length C), (1, str [13, 10]), (12, .int .i64 (k : Int))]) (fun (k : Nat) => H) (fun (k : Nat) => k ≤ l.length ∧ (l.take k).all ncr = true) (fun (k : Nat) => l.length - k) 0 (⟨Nat.zero_le _, rfl⟩) ⟨rfl, rfl, rfl, trivial⟩ rfl ?_
      rintro k ⟨hk, ha⟩ ihL3
      refine At.seq ?_
      refine At.seq ?_
      refine At.region ?_
      refine AtL.move (.inl rfl) rfl rfl ?_
      refine AtL.move (.inl rfl) rfl rfl ?_
      refine AtL.lenL Tryz.underlying22 (.inl rfl) rfl rfl ?_
      refine AtL.lss (.inl rfl) rfl rfl rfl ?_
      refine AtL.done ?_
      refine At.cond rfl ?_ ?_
      · intro hc13
        have hc13 : (k : Int) < (l.length : Int) := of_decide_eq_true hc13
        refine At.skip ?_
        refine At.seq ?_
        refine At.block ?_
        refine At.seq ?_
        refine At.region ?_
        refine AtL.move (.inl rfl) rfl rfl ?_
        refine AtL.move (.inl rfl) rfl rfl ?_
        refine AtL.indexL k h Tryz.underlying22 tf_sz5 (.inl rfl) rfl rfl rfl rfl (by omega) ?_
        refine AtL.load (v := .int .u8 ((l.getD k 0).toNat : Int)) tf_flat5 (.inl rfl) rfl rfl (Rd.cell0 h (getD_some 0 (by omega)) rfl) ?_
        have hB8 := u8_le ((l.getD k 0))
        refine AtL.convInt (z := ((l.getD k 0).toNat : Int)) Tryz.underlying5 Tryz.underlying21 (.inl rfl) rfl rfl (w32i (by omega) (by omega)) ?_
        refine AtL.assign (.inl rfl) rfl rfl ?_
        refine AtL.done ?_
        refine At.seq ?_
        refine At.seq ?_
        refine At.region ?_
        refine AtL.move (.inl rfl) rfl rfl ?_
        refine AtL.lss (.inl rfl) rfl rfl rfl ?_
        refine AtL.done ?_
        refine At.cond rfl ?_ ?_
        · intro hc14
          have hc14 : ((l.getD k 0).toNat : Int) < 128 := of_decide_eq_true hc14
          refine At.seq ?_
          refine At.seq ?_
          refine At.region ?_
          refine AtL.move (.inl rfl) rfl rfl ?_
          refine AtL.move (.inl rfl) rfl rfl ?_
          refine AtL.move (.inl rfl) rfl rfl ?_
          refine AtL.indexL k h Tryz.underlying22 tf_sz5 (.inl rfl) rfl rfl rfl rfl (by omega) ?_
          refine AtL.load (v := .int .u8 ((l.getD k 0).toNat : Int)) tf_flat5 (.inl rfl) rfl rfl (Rd.cell0 h (getD_some 0 (by omega)) rfl) ?_
          refine AtL.callX (v := .int .i64 (two (l.getD k 0))) (fun w S => ibs_run _ w) (.inl rfl) rfl rfl ?_
          refine AtL.geq (.inl rfl) rfl rfl rfl ?_
          refine AtL.done ?_
          refine At.cond rfl ?_ ?_
          · intro hc15
            have hc15 : 0 ≤ (two (l.getD k 0) : Int) := of_decide_eq_true hc15
            refine At.seq ?_
            refine At.region ?_
            refine AtL.move (.inl rfl) rfl rfl ?_
            refine AtL.assign (.inl rfl) rfl rfl ?_
            refine AtL.done ?_
            exact At.ret Tryz.func182 rfl rfl (⟨_, rfl, any_yes (k := k) (by omega) (crlf_two hc15) (by omega), rfl⟩)
          · intro hc15
            have hc15 : ¬ (0 ≤ (two (l.getD k 0) : Int)) := of_decide_eq_false hc15
            refine At.skip ?_
            refine At.seq ?_
            refine At.region ?_
            refine AtL.assign (.inl rfl) rfl rfl ?_
            refine AtL.done ?_
            refine At.exit rfl ?_
            refine At.region ?_
            refine AtL.move (.inl rfl) rfl rfl ?_
            refine AtL.move (.inl rfl) rfl rfl ?_
            refine AtL.add (z := (k : Int) + 1) (.inl rfl) rfl rfl rfl (w64 (by omega) (by omega)) ?_
            refine AtL.assign (.inl rfl) rfl rfl ?_
            refine AtL.done ?_
            refine ihL3 (k + 1) (⟨by omega, all_step (by omega) ha (ncr_two hc15)⟩) (by omega) _ ?_
            exact ⟨rfl, rfl, (by first | rfl | exact slLen (by simp []) | exact intEq (by omega) | exact intEq (by simp []) | exact slLen (by simp []; omega)), trivial⟩
        · intro hc14
          have hc14 : ¬ (((l.getD k 0).toNat : Int) < 128) := of_decide_eq_false hc14
          refine At.skip ?_
          refine At.seq ?_
          refine At.region ?_
          refine AtL.move (.inl rfl) rfl rfl ?_
          refine AtL.move (.inl rfl) rfl rfl ?_
          have hleo11 := Rd.le h
          refine AtL.sliceR 0 k l.length C h (evBound_some rfl rfl) rfl rfl (by intro h; cases h) (by omega) (by omega) (by omega) (by omega) Tryz.underlying22 tf_sz5 (.inl rfl) rfl rfl ?_
          clear hleo11
          intro A9 C10 (o11 : Rd tyB w0 base H A9 C10 (subl l k l.length))
          have hlo11 : (subl l k l.length).length = l.length - k := subl_len (by omega)
          refine AtL.call tf_body212 (.inl rfl) rfl rfl (decode_ok (l := subl l k l.length) o11 T (fun h => by have := congrArg List.length h; rw [subl_len (Nat.le_refl _)] at this; simp at this; omega) (by rw [subl_gets (by omega), Nat.add_zero]; omega)) ?_
          rintro _ _ ⟨r12, n13, rfl, ⟨hd14a, hd14b, hd14c, hd14d⟩, hHq⟩
          obtain rfl := hHq.symm
          have hdc := hd14c
          have hda := hd14a
          have hdb := hd14b
          refine AtL.move (.inl rfl) rfl rfl ?_
          refine AtL.extract (.inl rfl) rfl rfl rfl ?_
          refine AtL.extract (.inl rfl) rfl rfl rfl ?_
          refine AtL.assign (.inl rfl) rfl rfl ?_
          refine AtL.assign (.inl rfl) rfl rfl ?_
          refine AtL.done ?_
          refine At.seq ?_
          refine At.seq ?_
          refine At.region ?_
          refine AtL.move (.inl rfl) rfl rfl ?_
          refine AtL.nei (.inl rfl) rfl rfl rfl ?_
          refine AtL.done ?_
          refine At.cond rfl ?_ ?_
          · intro hc16
            have hc16 : ¬ ((r12 : Int) = 65533) := of_decide_eq_false (bnot_true hc16)
            refine At.seq ?_
            refine At.seq ?_
            refine At.region ?_
            refine AtL.move (.inl rfl) rfl rfl ?_
            refine AtL.lenS (l := [13, 10]) Tryz.underlying9 (.inl rfl) rfl rfl ?_
            refine AtL.move (.inl rfl) rfl rfl ?_
            refine AtL.eqi (.inl rfl) rfl rfl rfl ?_
            refine AtL.done ?_
            refine At.cond rfl ?_ ?_
            · intro hc17
              have hc17 : ([13, 10].length : Int) = (n13 : Int) := of_decide_eq_true hc17
              refine At.seq ?_
              refine At.seq ?_
              refine At.region ?_
              refine AtL.move (.inl rfl) rfl rfl ?_
              refine AtL.move (.inl rfl) rfl rfl ?_
              refine AtL.convRune Tryz.underlying21 Tryz.underlying9 (.inl rfl) rfl rfl ?_
              refine AtL.eqs (a := [13, 10]) (b := encL r12) (.inl rfl) rfl rfl rfl ?_
              refine AtL.done ?_
              refine At.condIs false rfl (decide_eq_false (fun h => enc_no _ h.symm)) ?_
              refine At.skip ?_
              refine At.exit rfl ?_
              refine At.region ?_
              refine AtL.move (.inl rfl) rfl rfl ?_
              refine AtL.move (.inl rfl) rfl rfl ?_
              refine AtL.add (z := (k : Int) + (n13 : Int)) (.inl rfl) rfl rfl rfl (w64 (by omega) (by omega)) ?_
              refine AtL.assign (.inl rfl) rfl rfl ?_
              refine AtL.done ?_
              refine ihL3 (k + n13) (⟨by omega, take_dec (by omega) (by omega) hdb hdc ha⟩) (by omega) _ ?_
              exact ⟨rfl, rfl, (by first | rfl | exact slLen (by simp []) | exact intEq (by omega) | exact intEq (by simp []) | exact slLen (by simp []; omega)), trivial⟩
            · intro hc17
              have hc17 : ¬ (([13, 10].length : Int) = (n13 : Int)) := of_decide_eq_false hc17
              refine At.skip ?_
              refine At.seq ?_
              refine At.region ?_
              refine AtL.load (v := int m) tf_flat3 (.inl rfl) rfl rfl (Cell.below T.lt0 hm) ?_
              refine AtL.move (.inl rfl) rfl rfl ?_
              refine AtL.geq (.inl rfl) rfl rfl rfl ?_
              refine AtL.done ?_
              refine At.cond rfl ?_ ?_
              · intro hc19
                have hc19 : (n13 : Int) ≤ m := of_decide_eq_true hc19
                refine At.seq ?_
                refine At.seq ?_
                refine At.region ?_
                refine AtL.move (.inl rfl) rfl rfl ?_
                refine AtL.move (.inl rfl) rfl rfl ?_
                refine AtL.convRune Tryz.underlying21 Tryz.underlying9 (.inl rfl) rfl rfl ?_
                have hel : 3 ≤ (encL r12).length ∧ ((encL r12).length : Int) ≤ m := by
                  rcases (show (2048 ≤ r12 ∧ r12 ≤ 65535 ∧ 3 ≤ m) ∨ (2048 ≤ r12 ∧ 4 ≤ m) by omega) with ⟨q1, q2, q3⟩ | ⟨q1, q2⟩
                  · have := enc3 q1 q2; omega
                  · have := enc_long q1; omega
                refine AtL.callX (v := .int .i64 (-1)) (fun w S => ixs_run T.lt0 hm hel.1 hel.2 w S) (.inl rfl) rfl rfl ?_
                refine AtL.geq (.inl rfl) rfl rfl rfl ?_
                refine AtL.done ?_
                refine At.condF rfl ?_
                refine At.skip ?_
                refine At.exit rfl ?_
                refine At.region ?_
                refine AtL.move (.inl rfl) rfl rfl ?_
                refine AtL.move (.inl rfl) rfl rfl ?_
                refine AtL.add (z := (k : Int) + (n13 : Int)) (.inl rfl) rfl rfl rfl (w64 (by omega) (by omega)) ?_
                refine AtL.assign (.inl rfl) rfl rfl ?_
                refine AtL.done ?_
                refine ihL3 (k + n13) (⟨by omega, take_dec (by omega) (by omega) hdb hdc ha⟩) (by omega) _ ?_
                exact ⟨rfl, rfl, (by first | rfl | exact slLen (by simp []) | exact intEq (by omega) | exact intEq (by simp []) | exact slLen (by simp []; omega)), trivial⟩
              · intro hc19
                have hc19 : ¬ ((n13 : Int) ≤ m) := of_decide_eq_false hc19
                refine At.skip ?_
                refine At.seq ?_
                refine At.region ?_
                refine AtL.move (.inl rfl) rfl rfl ?_
                refine AtL.rangeS Tryz.underlying9 (.inl rfl) rfl rfl ?_
                intro b15
                refine AtL.done ?_
                refine At.block ?_
                refine At.unroll ?_
                refine At.seq ?_
                refine At.region ?_
                refine AtL.nextS (p := 0) (n := 1) (c := 13) (l := [13, 10]) (H' := [(b15, .stringIter ⟨⟨[13, 10]⟩⟩ 1)] :: H) 0 0 (.inl rfl) rfl rfl rfl rfl rfl (by decide) rfl ?_
                refine AtL.extract (.inl rfl) rfl rfl rfl ?_
                refine AtL.done ?_
                refine At.seq ?_
                refine At.condT rfl ?_
                refine At.skip ?_
                refine At.block ?_
                refine At.seq ?_
                refine At.region ?_
                refine AtL.extract (.inl rfl) rfl rfl rfl ?_
                refine AtL.assign (.inl rfl) rfl rfl ?_
                refine AtL.done ?_
                refine At.seq ?_
                refine At.region ?_
                refine AtL.move (.inl rfl) rfl rfl ?_
                refine AtL.move (.inl rfl) rfl rfl ?_
                refine AtL.eqi (.inl rfl) rfl rfl rfl ?_
                refine AtL.done ?_
                refine At.condIs false rfl (decide_eq_false (by omega)) ?_
                refine At.skip ?_
                refine At.inBlock ?_
                refine At.again ?_
                refine At.seq ?_
                refine At.region ?_
                refine AtL.nextS (p := 1) (n := 1) (c := 10) (l := [13, 10]) (H' := [(b15, .stringIter ⟨⟨[13, 10]⟩⟩ 2)] :: H) 0 0 (.inl rfl) rfl rfl rfl rfl rfl (by decide) rfl ?_
                refine AtL.extract (.inl rfl) rfl rfl rfl ?_
                refine AtL.done ?_
                refine At.seq ?_
                refine At.condT rfl ?_
                refine At.skip ?_
                refine At.block ?_
                refine At.seq ?_
                refine At.region ?_
                refine AtL.extract (.inl rfl) rfl rfl rfl ?_
                refine AtL.assign (.inl rfl) rfl rfl ?_
                refine AtL.done ?_
                refine At.seq ?_
                refine At.region ?_
                refine AtL.move (.inl rfl) rfl rfl ?_
                refine AtL.move (.inl rfl) rfl rfl ?_
                refine AtL.eqi (.inl rfl) rfl rfl rfl ?_
                refine AtL.done ?_
                refine At.condIs false rfl (decide_eq_false (by omega)) ?_
                refine At.skip ?_
                refine At.inBlock ?_
                refine At.again ?_
                refine At.seq ?_
                refine At.region ?_
                refine AtL.nextOver (p := 2) (l := [13, 10]) 0 0 (.inl rfl) rfl rfl rfl rfl rfl ?_
                refine AtL.extract (.inl rfl) rfl rfl rfl ?_
                refine AtL.done ?_
                refine At.seq ?_
                refine At.condF rfl ?_
                refine At.exit rfl ?_
                refine At.inBlock ?_
                refine At.region ?_
                refine AtL.move (.inl rfl) rfl rfl ?_
                refine AtL.move (.inl rfl) rfl rfl ?_
                refine AtL.add (z := (k : Int) + (n13 : Int)) (.inl rfl) rfl rfl rfl (w64 (by omega) (by omega)) ?_
                refine AtL.assign (.inl rfl) rfl rfl ?_
                refine AtL.done ?_
                refine At.pick (H' := H) [] 1 rfl rfl ?_
                refine ihL3 (k + n13) (⟨by omega, take_dec (by omega) (by omega) hdb hdc ha⟩) (by omega) _ ?_
                exact ⟨rfl, rfl, (by first | rfl | exact slLen (by simp []) | exact intEq (by omega) | exact intEq (by simp []) | exact slLen (by simp []; omega)), trivial⟩
          · intro hc16
            have hc16 : (r12 : Int) = 65533 := of_decide_eq_true (bnot_false hc16)
            refine At.skip ?_
            refine At.seq ?_
            refine At.region ?_
            refine AtL.move (.inl rfl) rfl rfl ?_
            refine AtL.rangeS Tryz.underlying9 (.inl rfl) rfl rfl ?_
            intro b16
            refine AtL.done ?_
            refine At.block ?_
            refine At.unroll ?_
            refine At.seq ?_
            refine At.region ?_
            refine AtL.nextS (p := 0) (n := 1) (c := 13) (l := [13, 10]) (H' := [(b16, .stringIter ⟨⟨[13, 10]⟩⟩ 1)] :: H) 0 0 (.inl rfl) rfl rfl rfl rfl rfl (by decide) rfl ?_
            refine AtL.extract (.inl rfl) rfl rfl rfl ?_
            refine AtL.done ?_
            refine At.seq ?_
            refine At.condT rfl ?_
            refine At.skip ?_
            refine At.block ?_
            refine At.seq ?_
            refine At.region ?_
            refine AtL.extract (.inl rfl) rfl rfl rfl ?_
            refine AtL.assign (.inl rfl) rfl rfl ?_
            refine AtL.done ?_
            refine At.seq ?_
            refine At.region ?_
            refine AtL.move (.inl rfl) rfl rfl ?_
            refine AtL.move (.inl rfl) rfl rfl ?_
            refine AtL.eqi (.inl rfl) rfl rfl rfl ?_
            refine AtL.done ?_
            refine At.condIs false rfl (decide_eq_false (by omega)) ?_
            refine At.skip ?_
            refine At.inBlock ?_
            refine At.again ?_
            refine At.seq ?_
            refine At.region ?_
            refine AtL.nextS (p := 1) (n := 1) (c := 10) (l := [13, 10]) (H' := [(b16, .stringIter ⟨⟨[13, 10]⟩⟩ 2)] :: H) 0 0 (.inl rfl) rfl rfl rfl rfl rfl (by decide) rfl ?_
            refine AtL.extract (.inl rfl) rfl rfl rfl ?_
            refine AtL.done ?_
            refine At.seq ?_
            refine At.condT rfl ?_
            refine At.skip ?_
            refine At.block ?_
            refine At.seq ?_
            refine At.region ?_
            refine AtL.extract (.inl rfl) rfl rfl rfl ?_
            refine AtL.assign (.inl rfl) rfl rfl ?_
            refine AtL.done ?_
            refine At.seq ?_
            refine At.region ?_
            refine AtL.move (.inl rfl) rfl rfl ?_
            refine AtL.move (.inl rfl) rfl rfl ?_
            refine AtL.eqi (.inl rfl) rfl rfl rfl ?_
            refine AtL.done ?_
            refine At.condIs false rfl (decide_eq_false (by omega)) ?_
            refine At.skip ?_
            refine At.inBlock ?_
            refine At.again ?_
            refine At.seq ?_
            refine At.region ?_
            refine AtL.nextOver (p := 2) (l := [13, 10]) 0 0 (.inl rfl) rfl rfl rfl rfl rfl ?_
            refine AtL.extract (.inl rfl) rfl rfl rfl ?_
            refine AtL.done ?_
            refine At.seq ?_
            refine At.condF rfl ?_
            refine At.exit rfl ?_
            refine At.inBlock ?_
            refine At.region ?_
            refine AtL.move (.inl rfl) rfl rfl ?_
            refine AtL.move (.inl rfl) rfl rfl ?_
            refine AtL.add (z := (k : Int) + (n13 : Int)) (.inl rfl) rfl rfl rfl (w64 (by omega) (by omega)) ?_
            refine AtL.assign (.inl rfl) rfl rfl ?_
            refine AtL.done ?_
            refine At.pick (H' := H) [] 1 rfl rfl ?_
            refine ihL3 (k + n13) (⟨by omega, take_dec (by omega) (by omega) hdb hdc ha⟩) (by omega) _ ?_
            exact ⟨rfl, rfl, (by first | rfl | exact slLen (by simp []) | exact intEq (by omega) | exact intEq (by simp []) | exact slLen (by simp []; omega)), trivial⟩
      · intro hc13
        have hc13 : ¬ ((k : Int) < (l.length : Int)) := of_decide_eq_false hc13
        refine At.exit rfl ?_
        refine At.seq ?_
        refine At.region ?_
        refine AtL.assign (.inl rfl) rfl rfl ?_
        refine AtL.done ?_
        exact At.ret Tryz.func182 rfl rfl (⟨_, rfl, any_no (all_end (k := k) (by omega) ha), rfl⟩)
set_option maxHeartbeats 400000 in
theorem containsany_ok {w0 : World} {base : Nat} {H : List Seg} {A : Option Addr} {C : Nat} {l : List UInt8} (h : Rd tyB w0 base H A C l) (T : Tabs w0 base) :
    SCalls Tryz.prog 140 [.slice A l.length C, str [13, 10]] w0 base (H) (fun v H' => v = .bool (l.any crlf) ∧ H' = H) := by
  refine SCalls.of_walk (n := 9) Tryz.func140 rfl rfl rfl fun cs => ?_
  refine At.seq ?_
  refine At.region ?_
  refine AtL.assign (.inl rfl) rfl rfl ?_
  refine AtL.done ?_
  refine At.seq ?_
  refine At.region ?_
  refine AtL.move (.inl rfl) rfl rfl ?_
  refine AtL.move (.inl rfl) rfl rfl ?_
  refine AtL.call tf_body182 (.inl rfl) rfl rfl (indexany_ok (l := l) h T) ?_
  rintro _ _ ⟨z1, rfl, hz2, hHq⟩
  obtain rfl := hHq.symm
  refine AtL.geq (.inl rfl) rfl rfl rfl ?_
  refine AtL.assign (.inl rfl) rfl rfl ?_
  refine AtL.done ?_
  exact At.ret Tryz.func140 rfl rfl (⟨congrArg Value.bool hz2, rfl⟩)
end Go.Proofs.YtlkdmbpbjhjkfaaGreatDoor
namespace Go.Proofs.YtlkdmbpbjhjkfaaGreatDoor
set_option linter.unusedVariables false
set_option linter.unusedSimpArgs false
set_option maxRecDepth 100000
theorem index_bd (l s : List UInt8) (h : 0 ≤ Lib.index l s) : (Lib.index l s).toNat + s.length ≤ l.length := by
  have := Lib.index_room l s h
  omega
def cutB (l s : List UInt8) : List UInt8 × List UInt8 × Bool := if 0 ≤ Lib.index l s then (subl l 0 (Lib.index l s).toNat, subl l ((Lib.index l s).toNat + s.length) l.length, true) else (l, [], false)
set_option maxHeartbeats 400000 in
theorem bcut_ok {w0 : World} {base : Nat} {H : List Seg} {A Aq : Option Addr} {C Cq : Nat} {l s : List UInt8} (n : Nat) (hn : Rd tyB w0 base (H.drop n) A C l) (hq : Rd tyB w0 base H Aq Cq s) (hl : l.length < 4294967281) (hs : 2 ≤ s.length) (T : Tabs w0 base) :
    SCalls Tryz.prog 139 [.slice A l.length C, .slice Aq s.length Cq] w0 base (H) (fun v H' => ∃ A1 C1 A2 C2, v = .tuple #[.slice A1 (cutB l s).1.length C1, .slice A2 (cutB l s).2.1.length C2, .bool (cutB l s).2.2] ∧ Rd tyB w0 base (H.drop n) A1 C1 (cutB l s).1 ∧ Rd tyB w0 base (H.drop n) A2 C2 (cutB l s).2.1 ∧ H' = H) := by
  have h := Rd.skip n hn
  have hcap := h.cap
  have hle := h.le
  have hcap2 := hq.cap
  have hle2 := hq.le
  refine SCalls.of_walk (n := 23) Tryz.func139 rfl rfl rfl fun cs => ?_
  refine At.seq ?_
  refine At.region ?_
  refine AtL.assign (.inl rfl) rfl rfl ?_
  refine AtL.assign (.inl rfl) rfl rfl ?_
  refine AtL.assign (.inl rfl) rfl rfl ?_
  refine AtL.done ?_
  refine At.seq ?_
  refine At.seq ?_
  refine At.region ?_
  refine AtL.move (.inl rfl) rfl rfl ?_
  refine AtL.move (.inl rfl) rfl rfl ?_
  refine AtL.call tf_body74 (.inl rfl) rfl rfl (index_ok (l := l) (l2 := s) h hq (by omega) hs T) ?_
  rintro _ _ ⟨rfl, hHq⟩
  obtain rfl := hHq.symm
  refine AtL.assign (.inl rfl) rfl rfl ?_
  refine AtL.done ?_
  refine At.seq ?_
  refine At.region ?_
  refine AtL.move (.inl rfl) rfl rfl ?_
  refine AtL.geq (.inl rfl) rfl rfl rfl ?_
  refine AtL.done ?_
  refine At.cond rfl ?_ ?_
  · intro hc1
    have hc1 : 0 ≤ (Lib.index l s : Int) := of_decide_eq_true hc1
    have hbd := index_bd l s hc1
    refine At.seq ?_
    have hleo3 := Rd.le h
    obtain ⟨A1, eA1⟩ : ∃ A1 : Option Addr, A1 = (if C = 0 then A else Option.map (fun a => a.add (0 * tyB.sz)) A) := ⟨_, rfl⟩
    obtain ⟨C2, eC2⟩ : ∃ C2 : Nat, C2 = C - 0 := ⟨_, rfl⟩
    have o3 : Rd tyB w0 base H A1 C2 (subl l 0 ((Lib.index l s).toNat)) := by rw [eA1, eC2]; exact Rd.cut h (Nat.zero_le _) (by omega) (by omega) (by omega)
    have hleo6 := Rd.le h
    obtain ⟨A4, eA4⟩ : ∃ A4 : Option Addr, A4 = (if C = ((Lib.index l s).toNat + s.length) then A else Option.map (fun a => a.add (((Lib.index l s).toNat + s.length) * tyB.sz)) A) := ⟨_, rfl⟩
    obtain ⟨C5, eC5⟩ : ∃ C5 : Nat, C5 = C - ((Lib.index l s).toNat + s.length) := ⟨_, rfl⟩
    have o6 : Rd tyB w0 base H A4 C5 (subl l ((Lib.index l s).toNat + s.length) l.length) := by rw [eA4, eC5]; exact Rd.cut h (by omega) (Nat.le_refl _) (by omega) (by omega)
    refine At.draw (es := []) (pv := [(0, .slice A l.length C), (1, .int .i64 (Lib.index l s)), (2, .slice A1 (subl l 0 ((Lib.index l s).toNat)).length C2), (3, .slice A l.length C), (4, .int .i64 (Lib.index l s)), (5, .slice Aq s.length Cq), (6, .int .i64 (s.length : Int)), (7, .int .i64 (Lib.index l s + (s.length : Int))), (8, .slice A4 (subl l ((Lib.index l s).toNat + s.length) l.length).length C5), (9, .slice A1 (subl l 0 ((Lib.index l s).toNat)).length C2), (10, .slice A4 (subl l ((Lib.index l s).toNat + s.length) l.length).length C5), (11, .bool true)]) tf_mixed (by kernel_rfl) (by kernel_rfl) (by kernel_rfl) ?_
    refine ⟨⟨.inr ⟨_, rfl, rfl, .inl ⟨rfl, Do.move rfl⟩⟩, .inr ⟨_, rfl, rfl, .inl ⟨rfl, Do.move rfl⟩⟩, .inr ⟨_, rfl, rfl, .inl ⟨rfl, Do.sliceX_ (T := tyB) (l := l) 0 ((Lib.index l s).toNat) C rfl (evBound_some rfl (by omega)) rfl (by intro h; cases h) (Nat.zero_le _) (by omega) (Nat.le_refl _) Tryz.underlying22 tf_sz5 rfl eA1 (subl_len (l := l) (i := 0) (j := ((Lib.index l s).toNat)) (by omega)) eC2⟩⟩, .inr ⟨_, rfl, rfl, .inl ⟨rfl, Do.move rfl⟩⟩, .inr ⟨_, rfl, rfl, .inl ⟨rfl, Do.move rfl⟩⟩, .inr ⟨_, rfl, rfl, .inl ⟨rfl, Do.move rfl⟩⟩, .inr ⟨_, rfl, rfl, .inl ⟨rfl, Do.lenL Tryz.underlying22 rfl⟩⟩, .inr ⟨_, rfl, rfl, .inl ⟨rfl, Do.add (z := Lib.index l s + (s.length : Int)) rfl rfl (w64 (by omega) (by omega))⟩⟩, .inr ⟨_, rfl, rfl, .inl ⟨rfl, Do.sliceX_ (T := tyB) (l := l) ((Lib.index l s).toNat + s.length) l.length C (evBound_some rfl (by omega)) rfl rfl (by intro h; cases h) (by omega) (by omega) (Nat.le_refl _) Tryz.underlying22 tf_sz5 rfl eA4 (subl_len (l := l) (i := ((Lib.index l s).toNat + s.length)) (j := l.length) (Nat.le_refl _)) eC5⟩⟩, .inr ⟨_, rfl, rfl, .inl ⟨rfl, Do.assign rfl⟩⟩, .inr ⟨_, rfl, rfl, .inl ⟨rfl, Do.assign rfl⟩⟩, .inr ⟨_, rfl, rfl, .inl ⟨rfl, Do.assign rfl⟩⟩, trivial⟩, by kernel_rfl, ?_⟩
    refine At.mono (E' := [(4, .slice A1 (subl l 0 ((Lib.index l s).toNat)).length C2), (5, .slice A4 (subl l ((Lib.index l s).toNat + s.length) l.length).length C5), (6, .bool true)]) ⟨rfl, rfl, rfl, trivial⟩ ?_
    exact At.ret Tryz.func139 rfl rfl (⟨A1, C2, A4, C5, by rw [cutB, if_pos hc1]; rfl, by rw [cutB, if_pos hc1, eA1, eC2]; exact Rd.cut hn (Nat.zero_le _) (by omega) (by omega) (Nat.le_refl _), by rw [cutB, if_pos hc1, eA4, eC5]; exact Rd.cut hn (by omega) (Nat.le_refl _) (by omega) (Nat.le_refl _), rfl⟩)
  · intro hc1
    have hc1 : ¬ (0 ≤ (Lib.index l s : Int)) := of_decide_eq_false hc1
    refine At.skip ?_
    refine At.seq ?_
    refine At.region ?_
    refine AtL.move (.inl rfl) rfl rfl ?_
    refine AtL.assign (.inl rfl) rfl rfl ?_
    refine AtL.assign (.inl rfl) rfl rfl ?_
    refine AtL.assign (.inl rfl) rfl rfl ?_
    refine AtL.done ?_
    exact At.ret Tryz.func139 rfl rfl (⟨A, C, none, 0, by rw [cutB, if_neg hc1]; rfl, by rw [cutB, if_neg hc1]; exact hn, by rw [cutB, if_neg hc1]; exact Rd.nil_, rfl⟩)
theorem cutCR_cutB (b : List UInt8) : cutCR b = if (cutB b [13, 10]).2.2 = true then some ((cutB b [13, 10]).1, (cutB b [13, 10]).2.1) else none := by
  have hg := Lib.index_ge b [13, 10]
  rw [cutCR_index]
  by_cases h : Lib.index b [13, 10] = -1
  · have e : cutB b [13, 10] = (b, [], false) := by rw [cutB, if_neg (by omega)]
    rw [if_pos h, e]; rfl
  · have e : cutB b [13, 10] = (subl b 0 (Lib.index b [13, 10]).toNat, subl b ((Lib.index b [13, 10]).toNat + 2) b.length, true) := by rw [cutB, if_pos (by omega)]; rfl
    rw [if_neg h, e]
    simp only [if_true, subl]
    simp only [Nat.sub_zero, List.drop_zero]
    rw [List.take_of_length_le (l := b.drop _) (by simp)]
theorem cutB_len {b : List UInt8} (h : (cutB b [13, 10]).2.2 = true) : (cutB b [13, 10]).1.length + (cutB b [13, 10]).2.1.length + 2 = b.length := by
  have := cutCR_len (b := b) (l := (cutB b [13, 10]).1) (r := (cutB b [13, 10]).2.1) (by rw [cutCR_cutB, if_pos h])
  have := congrArg List.length this
  simp at this
  omega
theorem linesF_cut (b : List UInt8) : linesF b = if (cutB b [13, 10]).2.2 = false ∨ (cutB b [13, 10]).1.any crlf = true then none else if (cutB b [13, 10]).1 = [] then (if (cutB b [13, 10]).2.1 = [] then some [] else none) else (linesF (cutB b [13, 10]).2.1).map ((cutB b [13, 10]).1 :: ·) := by
  have hc := cutCR_cutB b
  cases hb : (cutB b [13, 10]).2.2 with
  | false =>
    rw [hb] at hc
    rw [if_pos (.inl rfl), linesF]
    split
    · rfl
    · rename_i l r h; rw [hc] at h; simp at h
  | true =>
    rw [hb, if_pos rfl] at hc
    rw [linesF]
    split
    · rename_i h; rw [hc] at h; cases h
    · rename_i l r h
      rw [hc] at h
      simp only [Option.some.injEq, Prod.mk.injEq] at h
      obtain ⟨h3, h4⟩ := h
      rw [← h3, ← h4]
      by_cases h2 : (cutB b [13, 10]).1.any crlf = true
      · rw [if_pos h2, if_pos (.inr h2)]
      · have h5 : ¬ (true = false ∨ (cutB b [13, 10]).1.any crlf = true) := by simpa using h2
        rw [if_neg h2, if_neg h5]
set_option maxHeartbeats 400000 in
theorem lines_ok {w0 : World} {base : Nat} {H : List Seg} {A : Option Addr} {C : Nat} {b : List UInt8} (h : Rd tyB w0 base H A C b) (hl : b.length ≤ 4294967280) (T : Tabs w0 base) :
    SCalls Tryz.prog 98 [.slice A b.length C] w0 base (H) (fun v H' => ∃ x : Sl tyS 9, v = .tuple #[.slice x.A x.l.length x.C, .bool (linesF b).isSome] ∧ (∀ ls, linesF b = some ls → x.l = ls) ∧ H' = x.s :: H) := by
  refine SCalls.of_walk (n := 35) Tryz.func98 rfl rfl rfl fun cs => ?_
  refine At.seq ?_
  refine At.region ?_
  refine AtL.assign (.inl rfl) rfl rfl ?_
  refine AtL.assign (.inl rfl) rfl rfl ?_
  refine AtL.done ?_
  refine At.seq ?_
  refine At.region ?_
  refine AtL.assign (.inl rfl) rfl rfl ?_
  refine AtL.done ?_
  refine At.block ?_
  refine At.nil ?_
  refine At.loop4 (fun (Ab : Option Addr) (Cb : Nat) (bb : List UInt8) (x : Sl tyS 9) => [(0, .slice Ab bb.length Cb), (4, .slice x.A x.l.length x.C)]) (fun (Ab : Option Addr) (Cb : Nat) (bb : List UInt8) (x : Sl tyS 9) => x.s :: H) (fun (Ab : Option Addr) (Cb : Nat) (bb : List UInt8) (x : Sl tyS 9) => Rd tyB w0 base H Ab Cb bb ∧ x.l.length + bb.length ≤ b.length ∧ linesF b = (linesF bb).map (x.l ++ ·)) (fun (Ab : Option Addr) (Cb : Nat) (bb : List UInt8) (x : Sl tyS 9) => bb.length) A C b Sl.nil (⟨h, by simp [Sl.nil], by simp [Sl.nil]⟩) ⟨rfl, rfl, trivial⟩ rfl ?_
  rintro Ab Cb bb x ⟨hb, hlen, hlb⟩ ihL1
  have hlc := linesF_cut bb
  have hcap := Own.cap_le x.own
  refine At.block ?_
  refine At.seq ?_
  refine At.region ?_
  refine AtL.move (.inl rfl) rfl rfl ?_
  refine AtL.buildSlice (cs := [.int .u8 13, .int .u8 10]) Tryz.underlying22 tf_zero5 tf_sz5 rfl rfl (.inl rfl) rfl rfl rfl ?_
  intro b1
  refine AtL.convSl1 (l := [13, 10]) 0 Tryz.underlying22 Tryz.underlying5 rfl rfl rfl (by decide) (.inl rfl) rfl rfl ?_
  intro s2 o3
  refine AtL.call tf_body139 (.inl rfl) rfl rfl (bcut_ok (l := bb) (s := [13, 10]) 2 hb (o3.rd (i := 0) rfl) (by omega) (by decide) T) ?_
  rintro _ _ ⟨A4, C5, A6, C7, rfl, h8, h9, rfl⟩
  refine AtL.move (.inl rfl) rfl rfl ?_
  refine AtL.extract (.inl rfl) rfl rfl rfl ?_
  refine AtL.extract (.inl rfl) rfl rfl rfl ?_
  refine AtL.extract (.inl rfl) rfl rfl rfl ?_
  refine AtL.assign (.inl rfl) rfl rfl ?_
  refine AtL.assign (.inl rfl) rfl rfl ?_
  refine AtL.assign (.inl rfl) rfl rfl ?_
  refine AtL.done ?_
  refine At.seq ?_
  refine At.seq ?_
  refine At.region ?_
  refine AtL.move (.inl rfl) rfl rfl ?_
  refine AtL.not (.inl rfl) rfl rfl ?_
  refine AtL.move (.inl rfl) rfl rfl ?_
  refine AtL.join 3 (E' := [(21, .bool (decide ((((cutB bb [13, 10]).2.2) = false) ∨ ((((cutB bb [13, 10]).1).any crlf) = true)))), (4, .slice x.A x.l.length x.C), (5, .slice A4 ((cutB bb [13, 10]).1).length C5), (6, .slice A6 ((cutB bb [13, 10]).2.1).length C7)]) (H' := s2 :: x.s :: H) (fun J => ?_) ?_
  · refine AtL.split (t := 18) rfl ?_ ?_
    · intro hs18
      have hs18 : ((cutB bb [13, 10]).2.2) = false := bnot_true hs18
      refine AtL.skipped rfl rfl rfl rfl rfl rfl ?_
      refine AtL.skipped rfl rfl rfl rfl rfl rfl ?_
      refine AtL.pickT (.inl rfl) rfl rfl rfl ?_
      exact J _ (by exact ⟨(boolIs (by clear J; first | (simp [hs18]; done) | (simp_all; done) | grind)), rfl, rfl, rfl, trivial⟩)
    · intro hs18
      have hs18 : ((cutB bb [13, 10]).2.2) = true := bnot_false hs18
      refine AtL.move (.inr ⟨_, _, _, rfl, rfl, rfl, rfl⟩) rfl rfl ?_
      refine AtL.call tf_body140 (.inr ⟨_, _, _, rfl, rfl, rfl, rfl⟩) rfl rfl (containsany_ok (l := (cutB bb [13, 10]).1) (Rd.skip 2 h8) T) ?_
      rintro _ _ ⟨rfl, rfl⟩
      refine AtL.pickF (.inl rfl) rfl rfl rfl ?_
      exact J _ (by exact ⟨(boolIs (by clear J; first | (simp [hs18]; done) | (simp_all; done) | grind)), rfl, rfl, rfl, trivial⟩)
  · skip
    refine AtL.done ?_
    refine At.cond rfl ?_ ?_
    · intro hc1
      have hc1 : (((cutB bb [13, 10]).2.2) = false) ∨ ((((cutB bb [13, 10]).1).any crlf) = true) := of_decide_eq_true hc1
      refine At.seq ?_
      refine At.region ?_
      refine AtL.assign (.inl rfl) rfl rfl ?_
      refine AtL.assign (.inl rfl) rfl rfl ?_
      refine AtL.done ?_
      refine At.nil ?_
      refine At.pick (H' := [] :: H) [0] 3 rfl rfl ?_
      have hn : linesF b = none := by rw [hlb, hlc, if_pos (by simpa using hc1)]; rfl
      exact At.ret Tryz.func98 rfl rfl (⟨Sl.nil, by rw [hn]; rfl, fun ls h => (by rw [hn] at h; cases h), rfl⟩)
    · intro hc1
      have hc1 : ¬ ((((cutB bb [13, 10]).2.2) = false) ∨ ((((cutB bb [13, 10]).1).any crlf) = true)) := of_decide_eq_false hc1
      have his : (cutB bb [13, 10]).2.2 = true := by simp only [not_or] at hc1; simpa using hc1.1
      have hbl := cutB_len his
      have hne : (cutB bb [13, 10]).1.any crlf = false := by simp only [not_or] at hc1; simpa using hc1.2
      refine At.skip ?_
      refine At.seq ?_
      refine At.seq ?_
      refine At.region ?_
      refine AtL.move (.inl rfl) rfl rfl ?_
      refine AtL.lenL Tryz.underlying22 (.inl rfl) rfl rfl ?_
      refine AtL.eqi (.inl rfl) rfl rfl rfl ?_
      refine AtL.done ?_
      refine At.cond rfl ?_ ?_
      · intro hc2
        have hc2 : (((cutB bb [13, 10]).1).length : Int) = 0 := of_decide_eq_true hc2
        refine At.seq ?_
        refine At.region ?_
        refine AtL.move (.inl rfl) rfl rfl ?_
        refine AtL.move (.inl rfl) rfl rfl ?_
        refine AtL.lenL Tryz.underlying22 (.inl rfl) rfl rfl ?_
        refine AtL.eqi (.inl rfl) rfl rfl rfl ?_
        refine AtL.assign (.inl rfl) rfl rfl ?_
        refine AtL.assign (.inl rfl) rfl rfl ?_
        refine AtL.done ?_
        refine At.pick (H' := x.s :: H) [1] 2 rfl rfl ?_
        have hl0 : (cutB bb [13, 10]).1 = [] := List.eq_nil_of_length_eq_zero (by omega)
        have hs : linesF b = if (cutB bb [13, 10]).2.1 = [] then some x.l else none := by rw [hlb, hlc, if_neg (by rw [his, hne]; simp), if_pos hl0]; split <;> simp
        exact At.ret Tryz.func98 rfl rfl (⟨x, by rw [hs]; split <;> rename_i h3 <;> simp [h3, oneOf], fun ls h => (by rw [hs] at h; split at h; exact Option.some.inj h; cases h), rfl⟩)
      · intro hc2
        have hc2 : ¬ ((((cutB bb [13, 10]).1).length : Int) = 0) := of_decide_eq_false hc2
        have hc2 : ¬ (cutB bb [13, 10]).1 = [] := fun h0 => hc2 (by rw [h0]; rfl)
        refine At.skip ?_
        refine At.seq ?_
        refine At.region ?_
        refine AtL.move (.inl rfl) rfl rfl ?_
        refine AtL.move (.inl rfl) rfl rfl ?_
        refine AtL.strOf (Rd.skip 2 h8) Tryz.underlying22 Tryz.underlying5 Tryz.underlying9 (.inl rfl) rfl rfl ?_
        refine AtL.buildSlice (cs := [str ((cutB bb [13, 10]).1)]) Tryz.underlying109 tf_zero9 tf_sz9 rfl rfl (.inl rfl) rfl rfl rfl ?_
        intro b10
        refine AtL.own1 tyS (l := ([(cutB bb [13, 10]).1] : List (List UInt8))) rfl rfl (by first | decide | simp) ?_
        intro s11 o12
        refine AtL.append (l := x.l) (news := [(cutB bb [13, 10]).1]) 2 tf_el109 rfl x.own (o12.rd (i := 0) rfl) (by first | omega | (simp only [List.length_append, List.length_cons, List.length_nil]; omega) | (simp; done) | (simp; omega)) (.inl rfl) rfl rfl rfl ?_
        intro A13 C14 s15 o16
        refine AtL.assign (.inl rfl) rfl rfl ?_
        refine AtL.done ?_
        refine At.region ?_
        refine AtL.move (.inl rfl) rfl rfl ?_
        refine AtL.assign (.inl rfl) rfl rfl ?_
        refine AtL.done ?_
        refine At.inBlock ?_
        refine At.pick (H' := s15 :: H) [2] 3 rfl rfl ?_
        refine ihL1 A6 C7 ((cutB bb [13, 10]).2.1) (⟨A13, C14, x.l ++ ([(cutB bb [13, 10]).1]), s15, o16⟩) (⟨h9, by simp; omega, by rw [hlb, hlc, if_neg (by simpa using hc1), if_neg hc2, Option.map_map]; congr 1; funext q; simp⟩) (by omega) _ ?_
        exact ⟨(by first | rfl | exact slLen (by simp []) | exact intEq (by omega) | exact intEq (by simp []) | exact slLen (by simp []; omega)), (by first | rfl | exact slLen (by simp []) | exact intEq (by omega) | exact intEq (by simp []) | exact slLen (by simp []; omega)), trivial⟩
end Go.Proofs.YtlkdmbpbjhjkfaaGreatDoor
namespace Go.Proofs.YtlkdmbpbjhjkfaaGreatDoor
set_option linter.unusedVariables false
set_option linter.unusedSimpArgs false
set_option maxRecDepth 100000
theorem version_no {w0 : World} {base : Nat} {H : List Seg} {l : List UInt8} (hl : l.length ≤ 140737488355000) (hv : verF l = false) : SCalls Tryz.prog 100 [str l] w0 base H (fun v H' => v = .tuple #[.int .u8 0, .int .u8 0, .bool false] ∧ H' = H) :=
  (version_ok hl).mono fun v H' h => by
    rcases h with ⟨_, h⟩ | ⟨h, _⟩
    · exact h
    · rw [hv] at h; cases h
theorem version_yes {w0 : World} {base : Nat} {H : List Seg} {l : List UInt8} (hl : l.length ≤ 140737488355000) (hv : verF l = true) : SCalls Tryz.prog 100 [str l] w0 base H (fun v H' => v = .tuple #[.int .u8 ((l.getD 5 0 - 48).toNat : Int), .int .u8 ((l.getD 7 0 - 48).toNat : Int), .bool true] ∧ H' = H) :=
  (version_ok hl).mono fun v H' h => by
    rcases h with ⟨h, _⟩ | ⟨_, _, h⟩
    · rw [hv] at h; cases h
    · exact h
theorem spF_le (c : UInt8) (l : List UInt8) : ∀ s ∈ spF c l, s.length ≤ l.length := by
  induction l with
  | nil => intro s hs; simp [spF] at hs; subst hs; simp
  | cons a l ih =>
    intro s hs
    unfold spF at hs
    by_cases h : a = c
    · rw [if_pos h] at hs
      rcases List.mem_cons.1 hs with rfl | hs
      · simp
      · have := ih s hs; simp; omega
    · rw [if_neg h] at hs
      cases hq : spF c l with
      | nil => exact absurd hq (spF_ne c l)
      | cons y ys =>
        rw [hq] at hs ih
        simp at hs
        rcases hs with rfl | hs
        · have := ih y (by simp); simp; omega
        · have := ih s (by simp [hs]); simp; omega
theorem lines_le {b : List UInt8} {ls : List (List UInt8)} (h : linesF b = some ls) : (∀ s ∈ ls, s.length ≤ b.length) ∧ ls.length ≤ b.length := by
  have hl := linesF_len h
  have key : ∀ ls : List (List UInt8), (∀ s ∈ ls, s.length ≤ (ls.map fun l => l.length + 2).sum) ∧ ls.length ≤ (ls.map fun l => l.length + 2).sum := by
    intro ls
    induction ls with
    | nil => exact ⟨fun s hs => absurd hs (by simp), by simp⟩
    | cons x ls ih =>
      obtain ⟨h1, h2⟩ := ih
      refine ⟨fun s hs => ?_, by simp; omega⟩
      rcases List.mem_cons.1 hs with rfl | hs
      · simp; omega
      · have := h1 s hs; simp; omega
  obtain ⟨h1, h2⟩ := key ls
  exact ⟨fun s hs => by have := h1 s hs; omega, by omega⟩
theorem three {α : Type} {l : List α} (d : α) (h : l.length = 3) : l = [l.getD 0 d, l.getD 1 d, l.getD 2 d] := by
  match l, h with
  | [a, b, c], _ => rfl
theorem headF_eq (l0 : List UInt8) (ls : List (List UInt8)) : headF l0 ls =
    if ¬ (spF 32 l0).length = 3 ∨ (spF 32 l0).getD 0 [] = [] ∨ (spF 32 l0).getD 1 [] = [] ∨ (spF 32 l0).getD 2 [] = [] ∨ wordF ((spF 32 l0).getD 0 []) 16 = false then (.zero, 400)
    else if verF ((spF 32 l0).getD 2 []) = false then (.zero, 400)
    else if ((spF 32 l0).getD 2 []).getD 5 0 ≠ 49 ∨ 49 < ((spF 32 l0).getD 2 []).getD 7 0 then (.zero, 505)
    else if 2048 < ((spF 32 l0).getD 1 []).length then (.zero, 414)
    else if targetF ((spF 32 l0).getD 1 []) = false then (.zero, 400)
    else match fieldsF ls 0 with
      | .inl s => (.zero, s)
      | .inr fs => if hostsF fs ((((spF 32 l0).getD 2 []).getD 7 0 - 48).toNat : Int) then (⟨(spF 32 l0).getD 0 [], (spF 32 l0).getD 1 [], ((((spF 32 l0).getD 2 []).getD 7 0 - 48).toNat : Int), fs⟩, 200) else (.zero, 400) := by
  unfold headF
  by_cases h : (spF 32 l0).length = 3
  · have h3 := three [] h
    generalize (spF 32 l0) = W at *
    match W, h with
    | [a, b, c], _ => simp; cases fieldsF ls 0 <;> rfl
  · rw [if_pos (.inl h)]
    split
    · rename_i m t v hw; rw [hw] at h; simp at h
    · rfl
theorem dig_one : ∀ c : Fin 256, 48 ≤ c.val → c.val ≤ 57 → (((UInt8.ofNat c.val - 48).toNat = 1 ↔ UInt8.ofNat c.val = 49) ∧ (1 < (UInt8.ofNat c.val - 48).toNat ↔ 49 < UInt8.ofNat c.val)) := by decide +kernel
theorem dig_two {c : UInt8} (h1 : 48 ≤ c) (h2 : c ≤ 57) : ((c - 48).toNat = 1 ↔ c = 49) ∧ (1 < (c - 48).toNat ↔ 49 < c) := by
  have := dig_one ⟨c.toNat, c.toNat_lt⟩ h1 h2
  simpa using this
theorem ver_dig {v : List UInt8} (h : verF v = true) : (¬ (((v.getD 5 0 - 48).toNat : Int) = 1) ↔ v.getD 5 0 ≠ 49) ∧ (1 < ((v.getD 7 0 - 48).toNat : Int) ↔ 49 < v.getD 7 0) := by
  simp only [verF, Bool.and_eq_true, decide_eq_true_eq] at h
  obtain ⟨⟨⟨⟨_, _⟩, h5⟩, _⟩, h7⟩ := h
  have a5 := (dig_two h5.1 h5.2).1
  have a7 := (dig_two h7.1 h7.2).2
  refine ⟨not_congr ⟨fun h => a5.1 (by omega), fun h => by have := a5.2 h; omega⟩, ⟨fun h => a7.1 (by omega), fun h => by have := a7.2 h; omega⟩⟩
theorem fields_step {L : List (List UInt8)} {k : Nat} (h : k < L.length) : fieldsF (L.drop k) k = if k = 32 then .inl 431 else if ¬ (Lib.cut (L.getD k []) [58]).2.2 = true ∨ wordF (Lib.cut (L.getD k []) [58]).1 64 = false ∨ valueF (Lib.trimS (Lib.cut (L.getD k []) [58]).2.1 [9, 32]) = false then .inl 400
    else match fieldsF (L.drop (k + 1)) (k + 1) with | .inl s => .inl s | .inr fs => .inr (((Lib.cut (L.getD k []) [58]).1, Lib.trimS (Lib.cut (L.getD k []) [58]).2.1 [9, 32]) :: fs) := by
  rw [List.drop_eq_getElem_cons h]
  have e : L[k] = L.getD k [] := by simp [List.getD, h]
  rw [e, fieldsF]
  by_cases h1 : k = 32
  · rw [if_pos h1, if_pos h1]
  · rw [if_neg h1, if_neg h1, cut_c]
    by_cases h2 : (Lib.cut (L.getD k []) [58]).2.2 = true
    · rw [if_pos h2]
      simp only [trim_set]
      by_cases h3 : wordF (Lib.cut (L.getD k []) [58]).1 64 = true
      · by_cases h4 : valueF (trimF (Lib.cut (L.getD k []) [58]).2.1) = true
        · rw [if_pos (by rw [h3, h4]; rfl), if_neg (by rw [h2, h3, h4]; simp)]
          cases fieldsF (List.drop (k + 1) L) (k + 1) <;> rfl
        · have h5 : ¬ (wordF (Lib.cut (L.getD k []) [58]).1 64 && valueF (trimF (Lib.cut (L.getD k []) [58]).2.1)) = true := by rw [h3]; simpa using h4
          rw [if_neg h5, if_pos (.inr (.inr (by simpa using h4)))]
      · rw [if_neg (fun h5 => h3 (Bool.and_eq_true_iff.1 h5).1), if_pos (.inr (.inl (by simpa using h3)))]
    · rw [if_neg h2, if_pos (.inl h2)]
theorem trimS_le (l cs : List UInt8) : (Lib.trimS l cs).length ≤ l.length := by
  unfold Lib.trimS Lib.trimLeftS Lib.trimRightS
  have h1 := dw_le (fun c => cs.contains c) l.reverse
  have h2 := dw_le (fun c => cs.contains c) (List.dropWhile (fun c => cs.contains c) l.reverse).reverse
  simp at h1 h2 ⊢
  omega
set_option maxHeartbeats 400000 in
theorem parse_ok {w0 : World} {base : Nat} {H : List Seg} {A : Option Addr} {C : Nat} {b : List UInt8} (h : Rd tyB w0 base H A C b) (T : Tabs w0 base) :
    SCalls Tryz.prog 60 [.slice A b.length C] w0 base (H) (fun v H' => ∃ x : Sl tyField 78, v = .tuple #[.agg #[str (parseF b).1.m, str (parseF b).1.t, int (parseF b).1.minor, .slice x.A x.l.length x.C], int (parseF b).2] ∧ x.l = (parseF b).1.fs ∧ H' = x.s :: H) := by
  have hcap := h.cap
  have hle := h.le
  refine SCalls.of_walk (n := 155) Tryz.func60 rfl rfl rfl fun cs => ?_
  refine At.seq ?_
  refine At.region ?_
  refine AtL.alloc tf_zero47 (cs := #[str [], str [], .int .i64 0, .slice none 0 0]) rfl (.inl rfl) rfl ?_
  intro b1
  refine AtL.assign (.inl rfl) rfl rfl ?_
  refine AtL.done ?_
  refine At.seq ?_
  refine At.seq ?_
  refine At.region ?_
  refine AtL.move (.inl rfl) rfl rfl ?_
  refine AtL.lenL Tryz.underlying22 (.inl rfl) rfl rfl ?_
  refine AtL.gtr (.inl rfl) rfl rfl rfl ?_
  refine AtL.done ?_
  refine At.cond rfl ?_ ?_
  · intro hc1
    have hc1 : 4096 < (b.length : Int) := of_decide_eq_true hc1
    refine At.seq ?_
    refine At.region ?_
    refine AtL.build (cs := [str [], str [], .int .i64 0, .slice none 0 0]) tf_lay47 (.inl rfl) rfl rfl rfl ?_
    refine AtL.store (H' := [(b1, .cells #[str [], str [], .int .i64 0, .slice none 0 0] 47 (0, 0))] :: H) 0 0 tf_sz47 (.inl rfl) rfl rfl rfl rfl rfl rfl rfl rfl rfl ?_
    refine AtL.assign (.inl rfl) rfl rfl ?_
    refine AtL.done ?_
    refine At.nil ?_
    have hp : parseF b = (.zero, 431) := by rw [parseF, if_pos (by omega)]
    exact At.retMP (vs := [.agg #[str [], str [], .int .i64 0, .slice none 0 0], .int .i64 431]) (H2 := [] :: H) [0] 2 rfl rfl Tryz.func60 rfl ⟨⟨_, rfl, LoadsTo.agg (cs := [str [], str [], .int .i64 0, .slice none 0 0]) tf_agg47 rfl (cellsOwn 1 0 0 rfl rfl rfl)⟩, rfl, trivial⟩ (⟨Sl.nil, by rw [hp]; rfl, by rw [hp]; rfl, rfl⟩)
  · intro hc1
    have hc1 : ¬ (4096 < (b.length : Int)) := of_decide_eq_false hc1
    refine At.skip ?_
    refine At.seq ?_
    refine At.region ?_
    refine AtL.move (.inl rfl) rfl rfl ?_
    refine AtL.call tf_body98 (.inl rfl) rfl rfl (lines_ok (b := b) (Rd.skip 1 h) (by omega) T) ?_
    rintro _ _ ⟨⟨A2, C3, l4, s5, o6⟩, rfl, hx7, rfl⟩
    have hlines := hx7
    refine AtL.move (.inl rfl) rfl rfl ?_
    refine AtL.extract (.inl rfl) rfl rfl rfl ?_
    refine AtL.extract (.inl rfl) rfl rfl rfl ?_
    refine AtL.assign (.inl rfl) rfl rfl ?_
    refine AtL.assign (.inl rfl) rfl rfl ?_
    refine AtL.done ?_
    refine At.seq ?_
    refine At.seq ?_
    refine At.region ?_
    refine AtL.move (.inl rfl) rfl rfl ?_
    refine AtL.not (.inl rfl) rfl rfl ?_
    refine AtL.move (.inl rfl) rfl rfl ?_
    refine AtL.join 4 (E' := [(30, .bool (decide ((((linesF b).isSome) = false) ∨ ((l4.length : Int) = 0)))), (2, .pointer (some ⟨b1, 0, none⟩)), (4, .slice A2 l4.length C3)]) (H' := s5 :: [(b1, .cells #[str [], str [], .int .i64 0, .slice none 0 0] 47 (0, 0))] :: H) (fun J => ?_) ?_
    · refine AtL.split (t := 26) rfl ?_ ?_
      · intro hs26
        have hs26 : ((linesF b).isSome) = false := bnot_true hs26
        refine AtL.skipped rfl rfl rfl rfl rfl rfl ?_
        refine AtL.skipped rfl rfl rfl rfl rfl rfl ?_
        refine AtL.skipped rfl rfl rfl rfl rfl rfl ?_
        refine AtL.pickT (.inl rfl) rfl rfl rfl ?_
        exact J _ (by exact ⟨(boolIs (by clear J; first | (simp [hs26]; done) | (simp_all; done) | grind)), rfl, rfl, trivial⟩)
      · intro hs26
        have hs26 : ((linesF b).isSome) = true := bnot_false hs26
        refine AtL.move (.inr ⟨_, _, _, rfl, rfl, rfl, rfl⟩) rfl rfl ?_
        refine AtL.lenL Tryz.underlying109 (.inr ⟨_, _, _, rfl, rfl, rfl, rfl⟩) rfl rfl ?_
        refine AtL.eqi (.inr ⟨_, _, _, rfl, rfl, rfl, rfl⟩) rfl rfl rfl ?_
        refine AtL.pickF (.inl rfl) rfl rfl rfl ?_
        exact J _ (by exact ⟨(boolIs (by clear J; first | (simp [hs26]; done) | (simp_all; done) | grind)), rfl, rfl, trivial⟩)
    · skip
      refine AtL.done ?_
      refine At.cond rfl ?_ ?_
      · intro hc2
        have hc2 : (((linesF b).isSome) = false) ∨ ((l4.length : Int) = 0) := of_decide_eq_true hc2
        refine At.seq ?_
        refine At.region ?_
        refine AtL.build (cs := [str [], str [], .int .i64 0, .slice none 0 0]) tf_lay47 (.inl rfl) rfl rfl rfl ?_
        refine AtL.store (H' := s5 :: [(b1, .cells #[str [], str [], .int .i64 0, .slice none 0 0] 47 (0, 0))] :: H) 1 0 tf_sz47 (.inl rfl) rfl rfl rfl rfl rfl rfl rfl rfl rfl ?_
        refine AtL.assign (.inl rfl) rfl rfl ?_
        refine AtL.done ?_
        refine At.nil ?_
        have hp : parseF b = (.zero, 400) := by
          rw [parseF, if_neg (by omega)]
          cases hq : linesF b with
          | none => rfl
          | some q =>
            have hql := hx7 q hq
            rw [hq] at hc2
            obtain rfl : q = [] := by rw [← hql]; exact List.eq_nil_of_length_eq_zero (by simpa using hc2)
            rfl
        exact At.retMP (vs := [.agg #[str [], str [], .int .i64 0, .slice none 0 0], .int .i64 400]) (H2 := [] :: H) [0] 3 rfl rfl Tryz.func60 rfl ⟨⟨_, rfl, LoadsTo.agg (cs := [str [], str [], .int .i64 0, .slice none 0 0]) tf_agg47 rfl (cellsOwn 2 0 0 rfl rfl rfl)⟩, rfl, trivial⟩ (⟨Sl.nil, by rw [hp]; rfl, by rw [hp]; rfl, rfl⟩)
      · intro hc2
        have hc2 : ¬ ((((linesF b).isSome) = false) ∨ ((l4.length : Int) = 0)) := of_decide_eq_false hc2
        obtain ⟨ls, hls⟩ : ∃ ls, linesF b = some ls := Option.isSome_iff_exists.1 (by cases hq : (linesF b).isSome <;> simp_all)
        have hll := (hx7 ls hls).symm
        have hne : ls.length ≠ 0 := by intro h; rw [hll] at h; simp only [not_or] at hc2; exact hc2.2 (by rw [h]; rfl)
        have hdl : (ls.drop 1).length = ls.length - 1 := by simp
        subst hll
        have hlb := lines_le hls
        have hp0 : parseF b = headF (ls.getD 0 []) (ls.drop 1) := by rw [parseF, if_neg (by omega), hls]; cases ls with | nil => simp at hne | cons a r => rfl
        have hl0 := hlb.1 (ls.getD 0 []) (getD_mem (l := ls) (i := 0) (by omega))
        have hw := spF_le 32 (ls.getD 0 [])
        have hWn : 0 < (spF 32 (ls.getD 0 [])).length := List.length_pos_iff.2 (spF_ne _ _)
        refine At.skip ?_
        refine At.seq ?_
        refine At.region ?_
        refine AtL.move (.inl rfl) rfl rfl ?_
        refine AtL.indexL 0 (o6.rd (i := 0) rfl) Tryz.underlying109 tf_sz9 (.inl rfl) rfl rfl rfl rfl (by omega) ?_
        refine AtL.load (v := str (ls.getD 0 [])) tf_flat9 (.inl rfl) rfl rfl (Rd.cell0 (o6.rd (i := 0) rfl) (getD_some [] (by omega)) rfl) ?_
        refine AtL.call tf_body92 (.inl rfl) rfl rfl (split_ok (x := (ls.getD 0 [])) 32 (by omega) T) ?_
        rintro _ _ ⟨⟨A8, C9, l10, s11, o12⟩, hx13, rfl, rfl⟩
        obtain rfl : spF 32 (ls.getD 0 []) = l10 := hx13.symm
        refine AtL.assign (.inl rfl) rfl rfl ?_
        refine AtL.done ?_
        refine At.seq ?_
        refine At.seq ?_
        refine At.region ?_
        refine AtL.move (.inl rfl) rfl rfl ?_
        refine AtL.lenL Tryz.underlying109 (.inl rfl) rfl rfl ?_
        refine AtL.nei (.inl rfl) rfl rfl rfl ?_
        refine AtL.move (.inl rfl) rfl rfl ?_
        refine AtL.join 5 (E' := [(44, .bool (decide ((¬ (((spF 32 (ls.getD 0 [])).length : Int) = 3)) ∨ (((spF 32 (ls.getD 0 [])).getD 0 []) = [])))), (2, .pointer (some ⟨b1, 0, none⟩)), (4, .slice A2 ls.length C3), (6, .slice A8 (spF 32 (ls.getD 0 [])).length C9)]) (H' := s11 :: s5 :: [(b1, .cells #[str [], str [], .int .i64 0, .slice none 0 0] 47 (0, 0))] :: H) (fun J => ?_) ?_
        · refine AtL.split (t := 39) rfl ?_ ?_
          · intro hs39
            have hs39 : ¬ (((spF 32 (ls.getD 0 [])).length : Int) = 3) := of_decide_eq_false (bnot_true hs39)
            refine AtL.skipped rfl rfl rfl rfl rfl rfl ?_
            refine AtL.skipped rfl rfl rfl rfl rfl rfl ?_
            refine AtL.skipped rfl rfl rfl rfl rfl rfl ?_
            refine AtL.skipped rfl rfl rfl rfl rfl rfl ?_
            refine AtL.pickT (.inl rfl) rfl rfl rfl ?_
            exact J _ (by exact ⟨(boolIs (by clear J; first | (simp [hs39]; done) | (simp_all; done) | grind)), rfl, rfl, rfl, trivial⟩)
          · intro hs39
            have hs39 : ((spF 32 (ls.getD 0 [])).length : Int) = 3 := of_decide_eq_true (bnot_false hs39)
            refine AtL.move (.inr ⟨_, _, _, rfl, rfl, rfl, rfl⟩) rfl rfl ?_
            refine AtL.indexL 0 (o12.rd (i := 0) rfl) Tryz.underlying109 tf_sz9 (.inr ⟨_, _, _, rfl, rfl, rfl, rfl⟩) rfl rfl rfl rfl (by omega) ?_
            refine AtL.load (v := str ((spF 32 (ls.getD 0 [])).getD 0 [])) tf_flat9 (.inr ⟨_, _, _, rfl, rfl, rfl, rfl⟩) rfl rfl (Rd.cell0 (o12.rd (i := 0) rfl) (getD_some [] (by omega)) rfl) ?_
            refine AtL.eqs (a := ((spF 32 (ls.getD 0 [])).getD 0 [])) (b := []) (.inr ⟨_, _, _, rfl, rfl, rfl, rfl⟩) rfl rfl rfl ?_
            refine AtL.pickF (.inl rfl) rfl rfl rfl ?_
            exact J _ (by exact ⟨(boolIs (by clear J; first | (simp [hs39]; done) | (simp_all; done) | grind)), rfl, rfl, rfl, trivial⟩)
        · skip
          refine AtL.move (.inl rfl) rfl rfl ?_
          refine AtL.join 5 (E' := [(50, .bool (decide (((¬ (((spF 32 (ls.getD 0 [])).length : Int) = 3)) ∨ (((spF 32 (ls.getD 0 [])).getD 0 []) = [])) ∨ (((spF 32 (ls.getD 0 [])).getD 1 []) = [])))), (2, .pointer (some ⟨b1, 0, none⟩)), (4, .slice A2 ls.length C3), (6, .slice A8 (spF 32 (ls.getD 0 [])).length C9)]) (H' := s11 :: s5 :: [(b1, .cells #[str [], str [], .int .i64 0, .slice none 0 0] 47 (0, 0))] :: H) (fun J => ?_) ?_
          · refine AtL.split (t := 45) rfl ?_ ?_
            · intro hs45
              have hs45 : (¬ (((spF 32 (ls.getD 0 [])).length : Int) = 3)) ∨ (((spF 32 (ls.getD 0 [])).getD 0 []) = []) := of_decide_eq_true hs45
              refine AtL.skipped rfl rfl rfl rfl rfl rfl ?_
              refine AtL.skipped rfl rfl rfl rfl rfl rfl ?_
              refine AtL.skipped rfl rfl rfl rfl rfl rfl ?_
              refine AtL.skipped rfl rfl rfl rfl rfl rfl ?_
              refine AtL.pickT (.inl rfl) rfl rfl rfl ?_
              exact J _ (by exact ⟨(boolIs (by clear J; first | (simp [hs45]; done) | (simp_all; done) | grind)), rfl, rfl, rfl, trivial⟩)
            · intro hs45
              have hs45 : ¬ ((¬ (((spF 32 (ls.getD 0 [])).length : Int) = 3)) ∨ (((spF 32 (ls.getD 0 [])).getD 0 []) = [])) := of_decide_eq_false hs45
              have hW3 : (spF 32 (ls.getD 0 [])).length = 3 := by simp only [not_or, Classical.not_not] at hs45; omega
              refine AtL.move (.inr ⟨_, _, _, rfl, rfl, rfl, rfl⟩) rfl rfl ?_
              refine AtL.indexL 1 (o12.rd (i := 0) rfl) Tryz.underlying109 tf_sz9 (.inr ⟨_, _, _, rfl, rfl, rfl, rfl⟩) rfl rfl rfl rfl (by omega) ?_
              refine AtL.load (v := str ((spF 32 (ls.getD 0 [])).getD 1 [])) tf_flat9 (.inr ⟨_, _, _, rfl, rfl, rfl, rfl⟩) rfl rfl (Rd.cell0 (o12.rd (i := 0) rfl) (getD_some [] (by omega)) rfl) ?_
              refine AtL.eqs (a := ((spF 32 (ls.getD 0 [])).getD 1 [])) (b := []) (.inr ⟨_, _, _, rfl, rfl, rfl, rfl⟩) rfl rfl rfl ?_
              refine AtL.pickF (.inl rfl) rfl rfl rfl ?_
              exact J _ (by exact ⟨(boolIs (by clear J; first | (simp [hs45]; done) | (simp_all; done) | grind)), rfl, rfl, rfl, trivial⟩)
          · skip
            refine AtL.move (.inl rfl) rfl rfl ?_
            refine AtL.join 5 (E' := [(56, .bool (decide ((((¬ (((spF 32 (ls.getD 0 [])).length : Int) = 3)) ∨ (((spF 32 (ls.getD 0 [])).getD 0 []) = [])) ∨ (((spF 32 (ls.getD 0 [])).getD 1 []) = [])) ∨ (((spF 32 (ls.getD 0 [])).getD 2 []) = [])))), (2, .pointer (some ⟨b1, 0, none⟩)), (4, .slice A2 ls.length C3), (6, .slice A8 (spF 32 (ls.getD 0 [])).length C9)]) (H' := s11 :: s5 :: [(b1, .cells #[str [], str [], .int .i64 0, .slice none 0 0] 47 (0, 0))] :: H) (fun J => ?_) ?_
            · refine AtL.split (t := 51) rfl ?_ ?_
              · intro hs51
                have hs51 : ((¬ (((spF 32 (ls.getD 0 [])).length : Int) = 3)) ∨ (((spF 32 (ls.getD 0 [])).getD 0 []) = [])) ∨ (((spF 32 (ls.getD 0 [])).getD 1 []) = []) := of_decide_eq_true hs51
                refine AtL.skipped rfl rfl rfl rfl rfl rfl ?_
                refine AtL.skipped rfl rfl rfl rfl rfl rfl ?_
                refine AtL.skipped rfl rfl rfl rfl rfl rfl ?_
                refine AtL.skipped rfl rfl rfl rfl rfl rfl ?_
                refine AtL.pickT (.inl rfl) rfl rfl rfl ?_
                exact J _ (by exact ⟨(boolIs (by clear J; first | (simp [hs51]; done) | (simp_all; done) | grind)), rfl, rfl, rfl, trivial⟩)
              · intro hs51
                have hs51 : ¬ (((¬ (((spF 32 (ls.getD 0 [])).length : Int) = 3)) ∨ (((spF 32 (ls.getD 0 [])).getD 0 []) = [])) ∨ (((spF 32 (ls.getD 0 [])).getD 1 []) = [])) := of_decide_eq_false hs51
                have hW3 : (spF 32 (ls.getD 0 [])).length = 3 := by simp only [not_or, Classical.not_not] at hs51; omega
                refine AtL.move (.inr ⟨_, _, _, rfl, rfl, rfl, rfl⟩) rfl rfl ?_
                refine AtL.indexL 2 (o12.rd (i := 0) rfl) Tryz.underlying109 tf_sz9 (.inr ⟨_, _, _, rfl, rfl, rfl, rfl⟩) rfl rfl rfl rfl (by omega) ?_
                refine AtL.load (v := str ((spF 32 (ls.getD 0 [])).getD 2 [])) tf_flat9 (.inr ⟨_, _, _, rfl, rfl, rfl, rfl⟩) rfl rfl (Rd.cell0 (o12.rd (i := 0) rfl) (getD_some [] (by omega)) rfl) ?_
                refine AtL.eqs (a := ((spF 32 (ls.getD 0 [])).getD 2 [])) (b := []) (.inr ⟨_, _, _, rfl, rfl, rfl, rfl⟩) rfl rfl rfl ?_
                refine AtL.pickF (.inl rfl) rfl rfl rfl ?_
                exact J _ (by exact ⟨(boolIs (by clear J; first | (simp [hs51]; done) | (simp_all; done) | grind)), rfl, rfl, rfl, trivial⟩)
            · skip
              refine AtL.move (.inl rfl) rfl rfl ?_
              refine AtL.join 6 (E' := [(63, .bool (decide (((((¬ (((spF 32 (ls.getD 0 [])).length : Int) = 3)) ∨ (((spF 32 (ls.getD 0 [])).getD 0 []) = [])) ∨ (((spF 32 (ls.getD 0 [])).getD 1 []) = [])) ∨ (((spF 32 (ls.getD 0 [])).getD 2 []) = [])) ∨ ((wordF ((spF 32 (ls.getD 0 [])).getD 0 []) 16) = false)))), (2, .pointer (some ⟨b1, 0, none⟩)), (4, .slice A2 ls.length C3), (6, .slice A8 (spF 32 (ls.getD 0 [])).length C9)]) (H' := s11 :: s5 :: [(b1, .cells #[str [], str [], .int .i64 0, .slice none 0 0] 47 (0, 0))] :: H) (fun J => ?_) ?_
              · refine AtL.split (t := 57) rfl ?_ ?_
                · intro hs57
                  have hs57 : (((¬ (((spF 32 (ls.getD 0 [])).length : Int) = 3)) ∨ (((spF 32 (ls.getD 0 [])).getD 0 []) = [])) ∨ (((spF 32 (ls.getD 0 [])).getD 1 []) = [])) ∨ (((spF 32 (ls.getD 0 [])).getD 2 []) = []) := of_decide_eq_true hs57
                  refine AtL.skipped rfl rfl rfl rfl rfl rfl ?_
                  refine AtL.skipped rfl rfl rfl rfl rfl rfl ?_
                  refine AtL.skipped rfl rfl rfl rfl rfl rfl ?_
                  refine AtL.skipped rfl rfl rfl rfl rfl rfl ?_
                  refine AtL.skipped rfl rfl rfl rfl rfl rfl ?_
                  refine AtL.pickT (.inl rfl) rfl rfl rfl ?_
                  exact J _ (by exact ⟨(boolIs (by clear J; first | (simp [hs57]; done) | (simp_all; done) | grind)), rfl, rfl, rfl, trivial⟩)
                · intro hs57
                  have hs57 : ¬ ((((¬ (((spF 32 (ls.getD 0 [])).length : Int) = 3)) ∨ (((spF 32 (ls.getD 0 [])).getD 0 []) = [])) ∨ (((spF 32 (ls.getD 0 [])).getD 1 []) = [])) ∨ (((spF 32 (ls.getD 0 [])).getD 2 []) = [])) := of_decide_eq_false hs57
                  have hW3 : (spF 32 (ls.getD 0 [])).length = 3 := by simp only [not_or, Classical.not_not] at hs57; omega
                  refine AtL.move (.inr ⟨_, _, _, rfl, rfl, rfl, rfl⟩) rfl rfl ?_
                  refine AtL.indexL 0 (o12.rd (i := 0) rfl) Tryz.underlying109 tf_sz9 (.inr ⟨_, _, _, rfl, rfl, rfl, rfl⟩) rfl rfl rfl rfl (by omega) ?_
                  refine AtL.load (v := str ((spF 32 (ls.getD 0 [])).getD 0 [])) tf_flat9 (.inr ⟨_, _, _, rfl, rfl, rfl, rfl⟩) rfl rfl (Rd.cell0 (o12.rd (i := 0) rfl) (getD_some [] (by omega)) rfl) ?_
                  refine AtL.call tf_body99 (.inr ⟨_, _, _, rfl, rfl, rfl, rfl⟩) rfl rfl (word_ok (l := ((spF 32 (ls.getD 0 [])).getD 0 [])) (by have := hw ((spF 32 (ls.getD 0 [])).getD 0 []) (getD_mem (l := spF 32 (ls.getD 0 [])) (i := 0) (by omega)); omega) 16) ?_
                  rintro _ _ ⟨rfl, rfl⟩
                  refine AtL.not (.inr ⟨_, _, _, rfl, rfl, rfl, rfl⟩) rfl rfl ?_
                  refine AtL.pickF (.inl rfl) rfl rfl rfl ?_
                  exact J _ (by exact ⟨(boolIs (by clear J; first | (simp [hs57]; done) | (simp_all; done) | grind)), rfl, rfl, rfl, trivial⟩)
              · skip
                refine AtL.done ?_
                refine At.cond rfl ?_ ?_
                · intro hc3
                  have hc3 : ((((¬ (((spF 32 (ls.getD 0 [])).length : Int) = 3)) ∨ (((spF 32 (ls.getD 0 [])).getD 0 []) = [])) ∨ (((spF 32 (ls.getD 0 [])).getD 1 []) = [])) ∨ (((spF 32 (ls.getD 0 [])).getD 2 []) = [])) ∨ ((wordF ((spF 32 (ls.getD 0 [])).getD 0 []) 16) = false) := of_decide_eq_true hc3
                  refine At.seq ?_
                  refine At.region ?_
                  refine AtL.build (cs := [str [], str [], .int .i64 0, .slice none 0 0]) tf_lay47 (.inl rfl) rfl rfl rfl ?_
                  refine AtL.store (H' := s11 :: s5 :: [(b1, .cells #[str [], str [], .int .i64 0, .slice none 0 0] 47 (0, 0))] :: H) 2 0 tf_sz47 (.inl rfl) rfl rfl rfl rfl rfl rfl rfl rfl rfl ?_
                  refine AtL.assign (.inl rfl) rfl rfl ?_
                  refine AtL.done ?_
                  refine At.nil ?_
                  have hp : parseF b = (.zero, 400) := by rw [hp0, headF_eq, if_pos (by rcases hc3 with (((h3 | h3) | h3) | h3) | h3; exact .inl (by omega); exact .inr (.inl h3); exact .inr (.inr (.inl h3)); exact .inr (.inr (.inr (.inl h3))); exact .inr (.inr (.inr (.inr h3))))]
                  exact At.retMP (vs := [.agg #[str [], str [], .int .i64 0, .slice none 0 0], .int .i64 400]) (H2 := [] :: H) [0] 4 rfl rfl Tryz.func60 rfl ⟨⟨_, rfl, LoadsTo.agg (cs := [str [], str [], .int .i64 0, .slice none 0 0]) tf_agg47 rfl (cellsOwn 3 0 0 rfl rfl rfl)⟩, rfl, trivial⟩ (⟨Sl.nil, by rw [hp]; rfl, by rw [hp]; rfl, rfl⟩)
                · intro hc3
                  have hc3 : ¬ (((((¬ (((spF 32 (ls.getD 0 [])).length : Int) = 3)) ∨ (((spF 32 (ls.getD 0 [])).getD 0 []) = [])) ∨ (((spF 32 (ls.getD 0 [])).getD 1 []) = [])) ∨ (((spF 32 (ls.getD 0 [])).getD 2 []) = [])) ∨ ((wordF ((spF 32 (ls.getD 0 [])).getD 0 []) 16) = false)) := of_decide_eq_false hc3
                  have hW3 : (spF 32 (ls.getD 0 [])).length = 3 := by simp only [not_or] at hc3; omega
                  have hn3 : ¬ (¬ (spF 32 (ls.getD 0 [])).length = 3 ∨ (spF 32 (ls.getD 0 [])).getD 0 [] = [] ∨ (spF 32 (ls.getD 0 [])).getD 1 [] = [] ∨ (spF 32 (ls.getD 0 [])).getD 2 [] = [] ∨ wordF ((spF 32 (ls.getD 0 [])).getD 0 []) 16 = false) := by simp only [not_or] at hc3 ⊢; exact ⟨by omega, hc3.1.1.1.2, hc3.1.1.2, hc3.1.2, by simpa using hc3.2⟩
                  refine At.skip ?_
                  refine At.seq ?_
                  refine At.region ?_
                  refine AtL.move (.inl rfl) rfl rfl ?_
                  refine AtL.indexL 2 (o12.rd (i := 0) rfl) Tryz.underlying109 tf_sz9 (.inl rfl) rfl rfl rfl rfl (by omega) ?_
                  refine AtL.load (v := str ((spF 32 (ls.getD 0 [])).getD 2 [])) tf_flat9 (.inl rfl) rfl rfl (Rd.cell0 (o12.rd (i := 0) rfl) (getD_some [] (by omega)) rfl) ?_
                  rcases Bool.eq_false_or_eq_true (verF ((spF 32 (ls.getD 0 [])).getD 2 [])) with hver | hver
                  · skip
                    refine AtL.call tf_body100 (.inl rfl) rfl rfl (version_yes (l := (spF 32 (ls.getD 0 [])).getD 2 []) (by have := hw ((spF 32 (ls.getD 0 [])).getD 2 []) (getD_mem (l := spF 32 (ls.getD 0 [])) (i := 2) (by omega)); omega) hver) ?_
                    rintro _ _ ⟨rfl, rfl⟩
                    refine AtL.move (.inl rfl) rfl rfl ?_
                    refine AtL.extract (.inl rfl) rfl rfl rfl ?_
                    refine AtL.extract (.inl rfl) rfl rfl rfl ?_
                    refine AtL.extract (.inl rfl) rfl rfl rfl ?_
                    refine AtL.assign (.inl rfl) rfl rfl ?_
                    refine AtL.assign (.inl rfl) rfl rfl ?_
                    refine AtL.assign (.inl rfl) rfl rfl ?_
                    refine AtL.done ?_
                    refine At.seq ?_
                    refine At.block ?_
                    refine At.seq ?_
                    refine At.region ?_
                    refine AtL.move (.inl rfl) rfl rfl ?_
                    refine AtL.not (.inl rfl) rfl rfl ?_
                    refine AtL.assign (.inl rfl) rfl rfl ?_
                    refine AtL.done ?_
                    refine At.condF rfl ?_
                    refine At.seq ?_
                    refine At.region ?_
                    refine AtL.move (.inl rfl) rfl rfl ?_
                    refine AtL.nei (.inl rfl) rfl rfl rfl ?_
                    refine AtL.move (.inl rfl) rfl rfl ?_
                    refine AtL.join 3 (E' := [(83, .bool (decide ((¬ (((((spF 32 (ls.getD 0 [])).getD 2 []).getD 5 0 - 48).toNat : Int) = 1)) ∨ (1 < ((((spF 32 (ls.getD 0 [])).getD 2 []).getD 7 0 - 48).toNat : Int))))), (2, .pointer (some ⟨b1, 0, none⟩)), (4, .slice A2 ls.length C3), (6, .slice A8 (spF 32 (ls.getD 0 [])).length C9), (8, .int .u8 ((((spF 32 (ls.getD 0 [])).getD 2 []).getD 7 0 - 48).toNat : Int))]) (H' := s11 :: s5 :: [(b1, .cells #[str [], str [], .int .i64 0, .slice none 0 0] 47 (0, 0))] :: H) (fun J => ?_) ?_
                    · refine AtL.split (t := 80) rfl ?_ ?_
                      · intro hs80
                        have hs80 : ¬ (((((spF 32 (ls.getD 0 [])).getD 2 []).getD 5 0 - 48).toNat : Int) = 1) := of_decide_eq_false (bnot_true hs80)
                        refine AtL.skipped rfl rfl rfl rfl rfl rfl ?_
                        refine AtL.skipped rfl rfl rfl rfl rfl rfl ?_
                        refine AtL.pickT (.inl rfl) rfl rfl rfl ?_
                        exact J _ (by exact ⟨(boolIs (by clear J; first | (simp [hs80]; done) | (simp_all; done) | grind)), rfl, rfl, rfl, rfl, trivial⟩)
                      · intro hs80
                        have hs80 : ((((spF 32 (ls.getD 0 [])).getD 2 []).getD 5 0 - 48).toNat : Int) = 1 := of_decide_eq_true (bnot_false hs80)
                        refine AtL.move (.inr ⟨_, _, _, rfl, rfl, rfl, rfl⟩) rfl rfl ?_
                        refine AtL.gtr (.inr ⟨_, _, _, rfl, rfl, rfl, rfl⟩) rfl rfl rfl ?_
                        refine AtL.pickF (.inl rfl) rfl rfl rfl ?_
                        exact J _ (by exact ⟨(boolIs (by clear J; first | (simp [hs80]; done) | (simp_all; done) | grind)), rfl, rfl, rfl, rfl, trivial⟩)
                    · skip
                      refine AtL.assign (.inl rfl) rfl rfl ?_
                      refine AtL.done ?_
                      refine At.cond rfl ?_ ?_
                      · intro hc5
                        have hc5 : (¬ (((((spF 32 (ls.getD 0 [])).getD 2 []).getD 5 0 - 48).toNat : Int) = 1)) ∨ (1 < ((((spF 32 (ls.getD 0 [])).getD 2 []).getD 7 0 - 48).toNat : Int)) := of_decide_eq_true hc5
                        refine At.seq ?_
                        refine At.region ?_
                        refine AtL.build (cs := [str [], str [], .int .i64 0, .slice none 0 0]) tf_lay47 (.inl rfl) rfl rfl rfl ?_
                        refine AtL.store (H' := s11 :: s5 :: [(b1, .cells #[str [], str [], .int .i64 0, .slice none 0 0] 47 (0, 0))] :: H) 2 0 tf_sz47 (.inl rfl) rfl rfl rfl rfl rfl rfl rfl rfl rfl ?_
                        refine AtL.assign (.inl rfl) rfl rfl ?_
                        refine AtL.done ?_
                        refine At.nil ?_
                        have hp : parseF b = (.zero, 505) := by rw [hp0, headF_eq, if_neg hn3, if_neg (by rw [hver]; simp), if_pos (by rw [← (ver_dig hver).1, ← (ver_dig hver).2]; exact hc5)]
                        exact At.retMP (vs := [.agg #[str [], str [], .int .i64 0, .slice none 0 0], .int .i64 505]) (H2 := [] :: H) [0] 4 rfl rfl Tryz.func60 rfl ⟨⟨_, rfl, LoadsTo.agg (cs := [str [], str [], .int .i64 0, .slice none 0 0]) tf_agg47 rfl (cellsOwn 3 0 0 rfl rfl rfl)⟩, rfl, trivial⟩ (⟨Sl.nil, by rw [hp]; rfl, by rw [hp]; rfl, rfl⟩)
                      · intro hc5
                        have hc5 : ¬ ((¬ (((((spF 32 (ls.getD 0 [])).getD 2 []).getD 5 0 - 48).toNat : Int) = 1)) ∨ (1 < ((((spF 32 (ls.getD 0 [])).getD 2 []).getD 7 0 - 48).toNat : Int))) := of_decide_eq_false hc5
                        refine At.seq ?_
                        refine At.region ?_
                        refine AtL.move (.inl rfl) rfl rfl ?_
                        refine AtL.indexL 1 (o12.rd (i := 0) rfl) Tryz.underlying109 tf_sz9 (.inl rfl) rfl rfl rfl rfl (by omega) ?_
                        refine AtL.load (v := str ((spF 32 (ls.getD 0 [])).getD 1 [])) tf_flat9 (.inl rfl) rfl rfl (Rd.cell0 (o12.rd (i := 0) rfl) (getD_some [] (by omega)) rfl) ?_
                        refine AtL.lenS (l := ((spF 32 (ls.getD 0 [])).getD 1 [])) Tryz.underlying9 (.inl rfl) rfl rfl ?_
                        refine AtL.gtr (.inl rfl) rfl rfl rfl ?_
                        refine AtL.assign (.inl rfl) rfl rfl ?_
                        refine AtL.done ?_
                        refine At.cond rfl ?_ ?_
                        · intro hc6
                          have hc6 : 2048 < (((spF 32 (ls.getD 0 [])).getD 1 []).length : Int) := of_decide_eq_true hc6
                          refine At.seq ?_
                          refine At.region ?_
                          refine AtL.build (cs := [str [], str [], .int .i64 0, .slice none 0 0]) tf_lay47 (.inl rfl) rfl rfl rfl ?_
                          refine AtL.store (H' := s11 :: s5 :: [(b1, .cells #[str [], str [], .int .i64 0, .slice none 0 0] 47 (0, 0))] :: H) 2 0 tf_sz47 (.inl rfl) rfl rfl rfl rfl rfl rfl rfl rfl rfl ?_
                          refine AtL.assign (.inl rfl) rfl rfl ?_
                          refine AtL.done ?_
                          refine At.nil ?_
                          have hp : parseF b = (.zero, 414) := by rw [hp0, headF_eq, if_neg hn3, if_neg (by rw [hver]; simp), if_neg (by rw [← (ver_dig hver).1, ← (ver_dig hver).2]; exact hc5), if_pos (by omega)]
                          exact At.retMP (vs := [.agg #[str [], str [], .int .i64 0, .slice none 0 0], .int .i64 414]) (H2 := [] :: H) [0] 4 rfl rfl Tryz.func60 rfl ⟨⟨_, rfl, LoadsTo.agg (cs := [str [], str [], .int .i64 0, .slice none 0 0]) tf_agg47 rfl (cellsOwn 3 0 0 rfl rfl rfl)⟩, rfl, trivial⟩ (⟨Sl.nil, by rw [hp]; rfl, by rw [hp]; rfl, rfl⟩)
                        · intro hc6
                          have hc6 : ¬ (2048 < (((spF 32 (ls.getD 0 [])).getD 1 []).length : Int)) := of_decide_eq_false hc6
                          refine At.seq ?_
                          refine At.region ?_
                          refine AtL.move (.inl rfl) rfl rfl ?_
                          refine AtL.indexL 1 (o12.rd (i := 0) rfl) Tryz.underlying109 tf_sz9 (.inl rfl) rfl rfl rfl rfl (by omega) ?_
                          refine AtL.load (v := str ((spF 32 (ls.getD 0 [])).getD 1 [])) tf_flat9 (.inl rfl) rfl rfl (Rd.cell0 (o12.rd (i := 0) rfl) (getD_some [] (by omega)) rfl) ?_
                          refine AtL.call tf_body101 (.inl rfl) rfl rfl (target_ok (l := ((spF 32 (ls.getD 0 [])).getD 1 [])) (by have := hw ((spF 32 (ls.getD 0 [])).getD 1 []) (getD_mem (l := spF 32 (ls.getD 0 [])) (i := 1) (by omega)); omega)) ?_
                          rintro _ _ ⟨rfl, rfl⟩
                          refine AtL.not (.inl rfl) rfl rfl ?_
                          refine AtL.assign (.inl rfl) rfl rfl ?_
                          refine AtL.done ?_
                          refine At.cond rfl ?_ ?_
                          · intro hc7
                            have hc7 : (targetF ((spF 32 (ls.getD 0 [])).getD 1 [])) = false := bnot_true hc7
                            refine At.seq ?_
                            refine At.region ?_
                            refine AtL.build (cs := [str [], str [], .int .i64 0, .slice none 0 0]) tf_lay47 (.inl rfl) rfl rfl rfl ?_
                            refine AtL.store (H' := s11 :: s5 :: [(b1, .cells #[str [], str [], .int .i64 0, .slice none 0 0] 47 (0, 0))] :: H) 2 0 tf_sz47 (.inl rfl) rfl rfl rfl rfl rfl rfl rfl rfl rfl ?_
                            refine AtL.assign (.inl rfl) rfl rfl ?_
                            refine AtL.done ?_
                            refine At.nil ?_
                            have hp : parseF b = (.zero, 400) := by rw [hp0, headF_eq, if_neg hn3, if_neg (by rw [hver]; simp), if_neg (by rw [← (ver_dig hver).1, ← (ver_dig hver).2]; exact hc5), if_neg (by omega), if_pos (by simpa using hc7)]
                            exact At.retMP (vs := [.agg #[str [], str [], .int .i64 0, .slice none 0 0], .int .i64 400]) (H2 := [] :: H) [0] 4 rfl rfl Tryz.func60 rfl ⟨⟨_, rfl, LoadsTo.agg (cs := [str [], str [], .int .i64 0, .slice none 0 0]) tf_agg47 rfl (cellsOwn 3 0 0 rfl rfl rfl)⟩, rfl, trivial⟩ (⟨Sl.nil, by rw [hp]; rfl, by rw [hp]; rfl, rfl⟩)
                          · intro hc7
                            have hc7 : (targetF ((spF 32 (ls.getD 0 [])).getD 1 [])) = true := bnot_false hc7
                            refine At.skip ?_
                            refine At.inBlock ?_
                            refine At.seq ?_
                            have hB14 := u8_le ((((spF 32 (ls.getD 0 [])).getD 2 []).getD 7 0 - 48))
                            refine At.draw (es := [9, 10]) (pv := [(0, .slice A8 (spF 32 (ls.getD 0 [])).length C9), (1, .pointer (some (eaddr A8 (0 * tyS.sz)))), (2, str ((spF 32 (ls.getD 0 [])).getD 0 [])), (3, .slice A8 (spF 32 (ls.getD 0 [])).length C9), (4, .pointer (some (eaddr A8 (1 * tyS.sz)))), (5, str ((spF 32 (ls.getD 0 [])).getD 1 [])), (6, .int .u8 ((((spF 32 (ls.getD 0 [])).getD 2 []).getD 7 0 - 48).toNat : Int)), (7, .int .i64 ((((spF 32 (ls.getD 0 [])).getD 2 []).getD 7 0 - 48).toNat : Int)), (8, .agg #[str ((spF 32 (ls.getD 0 [])).getD 0 []), str ((spF 32 (ls.getD 0 [])).getD 1 []), .int .i64 ((((spF 32 (ls.getD 0 [])).getD 2 []).getD 7 0 - 48).toNat : Int), .slice none 0 0])]) tf_mixed (by kernel_rfl) (by kernel_rfl) (by kernel_rfl) ?_
                            refine ⟨⟨.inr ⟨_, rfl, rfl, .inl ⟨rfl, Do.move rfl⟩⟩, .inr ⟨_, rfl, rfl, .inl ⟨rfl, Do.indexL 0 (o12.rd (i := 0) rfl) Tryz.underlying109 tf_sz9 rfl rfl rfl (by omega)⟩⟩, .inr ⟨_, rfl, rfl, .inl ⟨rfl, Do.load (v := str ((spF 32 (ls.getD 0 [])).getD 0 [])) tf_flat9 rfl (Rd.cell0 (o12.rd (i := 0) rfl) (getD_some [] (by omega)) rfl)⟩⟩, .inr ⟨_, rfl, rfl, .inl ⟨rfl, Do.move rfl⟩⟩, .inr ⟨_, rfl, rfl, .inl ⟨rfl, Do.indexL 1 (o12.rd (i := 0) rfl) Tryz.underlying109 tf_sz9 rfl rfl rfl (by omega)⟩⟩, .inr ⟨_, rfl, rfl, .inl ⟨rfl, Do.load (v := str ((spF 32 (ls.getD 0 [])).getD 1 [])) tf_flat9 rfl (Rd.cell0 (o12.rd (i := 0) rfl) (getD_some [] (by omega)) rfl)⟩⟩, .inr ⟨_, rfl, rfl, .inl ⟨rfl, Do.move rfl⟩⟩, .inr ⟨_, rfl, rfl, .inl ⟨rfl, Do.convInt (z := ((((spF 32 (ls.getD 0 [])).getD 2 []).getD 7 0 - 48).toNat : Int)) Tryz.underlying5 Tryz.underlying3 rfl (u8_i64 _)⟩⟩, .inr ⟨_, rfl, rfl, .inl ⟨rfl, Do.build (cs := [str ((spF 32 (ls.getD 0 [])).getD 0 []), str ((spF 32 (ls.getD 0 [])).getD 1 []), .int .i64 ((((spF 32 (ls.getD 0 [])).getD 2 []).getD 7 0 - 48).toNat : Int), .slice none 0 0]) tf_lay47 rfl rfl⟩⟩, trivial⟩, rfl, rfl, by kernel_rfl, _, rfl, rfl, rfl, _, Do.alloc tf_zero47 (cs := #[str [], str [], .int .i64 0, .slice none 0 0]) rfl, ?_⟩
                            rintro _ _ ⟨b15, rfl, rfl⟩
                            refine ⟨[], rfl, ?_⟩
                            refine ⟨⟨.inr ⟨_, rfl, rfl, .inl ⟨rfl, Do.move rfl⟩⟩, .inr ⟨_, rfl, rfl, .inl ⟨rfl, Do.indexL 0 (o12.rd (i := 1) rfl) Tryz.underlying109 tf_sz9 rfl rfl rfl (by omega)⟩⟩, .inr ⟨_, rfl, rfl, .inl ⟨rfl, Do.load (v := str ((spF 32 (ls.getD 0 [])).getD 0 [])) tf_flat9 rfl (Rd.cell0 (o12.rd (i := 1) rfl) (getD_some [] (by omega)) rfl)⟩⟩, .inr ⟨_, rfl, rfl, .inl ⟨rfl, Do.move rfl⟩⟩, .inr ⟨_, rfl, rfl, .inl ⟨rfl, Do.indexL 1 (o12.rd (i := 1) rfl) Tryz.underlying109 tf_sz9 rfl rfl rfl (by omega)⟩⟩, .inr ⟨_, rfl, rfl, .inl ⟨rfl, Do.load (v := str ((spF 32 (ls.getD 0 [])).getD 1 [])) tf_flat9 rfl (Rd.cell0 (o12.rd (i := 1) rfl) (getD_some [] (by omega)) rfl)⟩⟩, .inr ⟨_, rfl, rfl, .inl ⟨rfl, Do.move rfl⟩⟩, .inr ⟨_, rfl, rfl, .inl ⟨rfl, Do.convInt (z := ((((spF 32 (ls.getD 0 [])).getD 2 []).getD 7 0 - 48).toNat : Int)) Tryz.underlying5 Tryz.underlying3 rfl (u8_i64 _)⟩⟩, .inr ⟨_, rfl, rfl, .inl ⟨rfl, Do.build (cs := [str ((spF 32 (ls.getD 0 [])).getD 0 []), str ((spF 32 (ls.getD 0 [])).getD 1 []), .int .i64 ((((spF 32 (ls.getD 0 [])).getD 2 []).getD 7 0 - 48).toNat : Int), .slice none 0 0]) tf_lay47 rfl rfl⟩⟩, trivial⟩, rfl, rfl, by kernel_rfl, _, rfl, rfl, rfl, _, Do.store (H' := [(b15, .cells #[str ((spF 32 (ls.getD 0 [])).getD 0 []), str ((spF 32 (ls.getD 0 [])).getD 1 []), .int .i64 ((((spF 32 (ls.getD 0 [])).getD 2 []).getD 7 0 - 48).toNat : Int), .slice none 0 0] 47 (0, 0))] :: s11 :: s5 :: [(b1, .cells #[str [], str [], .int .i64 0, .slice none 0 0] 47 (0, 0))] :: H) 0 0 tf_sz47 rfl rfl rfl rfl rfl rfl rfl rfl rfl, ?_⟩
                            rintro _ _ ⟨rfl, rfl⟩
                            refine ⟨[], rfl, ?_⟩
                            refine ⟨⟨.inl (by kernel_rfl), .inl (by kernel_rfl), .inl (by kernel_rfl), .inl (by kernel_rfl), .inl (by kernel_rfl), .inl (by kernel_rfl), .inl (by kernel_rfl), .inl (by kernel_rfl), .inl (by kernel_rfl), trivial⟩, by kernel_rfl, ?_⟩
                            refine At.mono (E' := [(2, .pointer (some ⟨b1, 0, none⟩)), (4, .slice A2 ls.length C3), (9, .pointer (some ⟨b15, 0, none⟩))]) ⟨rfl, rfl, rfl, trivial⟩ ?_
                            refine At.seq ?_
                            refine At.seq ?_
                            refine At.region ?_
                            refine AtL.move (.inl rfl) rfl rfl ?_
                            have hleo19 := Own.le_cap o6
                            refine AtL.sliceO 1 ls.length C3 o6 (evBound_some rfl rfl) rfl rfl (by intro h; cases h) (by omega) (Nat.le_refl _) (by omega) (Nat.le_refl _) Tryz.underlying109 tf_sz9 (.inl rfl) rfl rfl ?_
                            rw [show subl ls 1 ls.length = ls.drop 1 from by unfold subl; rw [List.take_of_length_le (by simp)]]
                            intro A17 C18 o19
                            refine AtL.lenL Tryz.underlying109 (.inl rfl) rfl rfl ?_
                            refine AtL.move (.inl rfl) rfl rfl ?_
                            refine AtL.done ?_
                            refine At.block ?_
                            refine At.nil ?_
                            refine At.pick (H' := [(b15, .cells #[str ((spF 32 (ls.getD 0 [])).getD 0 []), str ((spF 32 (ls.getD 0 [])).getD 1 []), .int .i64 ((((spF 32 (ls.getD 0 [])).getD 2 []).getD 7 0 - 48).toNat : Int), .slice none 0 0] 47 (0, 0))] :: [] :: s5 :: [(b1, .cells #[str [], str [], .int .i64 0, .slice none 0 0] 47 (0, 0))] :: H) [1, 0, 3, 4] 5 rfl rfl ?_
                            refine At.loop2 (fun (k : Nat) (x : Sl tyField 78) => [(2, .pointer (some ⟨b1, 0, none⟩)), (9, .pointer (some ⟨b15, 0, none⟩)), (109, .slice A17 (ls.drop 1).length C18), (110, .int .i64 ((ls.drop 1).length : Int)), (111, .int .i64 (k : Int))]) (fun (k : Nat) (x : Sl tyField 78) => [(b15, .cells #[str ((spF 32 (ls.getD 0 [])).getD 0 []), str ((spF 32 (ls.getD 0 [])).getD 1 []), .int .i64 ((((spF 32 (ls.getD 0 [])).getD 2 []).getD 7 0 - 48).toNat : Int), .slice x.A x.l.length x.C] 47 (0, 0))] :: x.s :: s5 :: [(b1, .cells #[str [], str [], .int .i64 0, .slice none 0 0] 47 (0, 0))] :: H) (fun (k : Nat) (x : Sl tyField 78) => k ≤ (ls.drop 1).length ∧ (x.l.length = k ∧ k ≤ 32) ∧ fieldsF (ls.drop 1) 0 = (match fieldsF ((ls.drop 1).drop k) k with | .inl s => .inl s | .inr fs => .inr (x.l ++ fs)) ∧ (∀ f ∈ x.l, f.1.length ≤ b.length ∧ f.2.length ≤ b.length)) (fun (k : Nat) (x : Sl tyField 78) => (ls.drop 1).length - k) 0 Sl.nil (⟨Nat.zero_le _, ⟨rfl, by decide⟩, by rw [List.drop_zero]; cases fieldsF (ls.drop 1) 0 <;> simp [Sl.nil], fun f hf => absurd hf (by simp [Sl.nil])⟩) ⟨rfl, rfl, rfl, rfl, rfl, trivial⟩ rfl ?_
                            rintro k x ⟨hk, ⟨hxl, hk32⟩, hfl, hxb⟩ ihL1
                            have hcap := Own.cap_le x.own
                            refine At.seq ?_
                            refine At.region ?_
                            refine AtL.lss (.inl rfl) rfl rfl rfl ?_
                            refine AtL.done ?_
                            refine At.seq ?_
                            refine At.cond rfl ?_ ?_
                            · intro hc8
                              have hc8 : (k : Int) < ((ls.drop 1).length : Int) := of_decide_eq_true hc8
                              have hst := fields_step (L := ls.drop 1) (k := k) (by omega)
                              have hlk := hlb.1 ((ls.drop 1).getD k []) (List.mem_of_mem_drop (getD_mem (l := ls.drop 1) (i := k) (by omega)))
                              have hcl := cut_le 58 ((ls.drop 1).getD k [])
                              have htl := trimS_le (Lib.cut ((ls.drop 1).getD k []) [58]).2.1 [9, 32]
                              refine At.skip ?_
                              refine At.seq ?_
                              refine At.block ?_
                              refine At.seq ?_
                              refine At.region ?_
                              refine AtL.indexL k (o19.rd (i := 2) rfl) Tryz.underlying109 tf_sz9 (.inl rfl) rfl rfl rfl rfl (by omega) ?_
                              refine AtL.load (v := str ((ls.drop 1).getD k [])) tf_flat9 (.inl rfl) rfl rfl (Rd.cell0 (o19.rd (i := 2) rfl) (getD_some [] (by omega)) rfl) ?_
                              refine AtL.assign (.inl rfl) rfl rfl ?_
                              refine AtL.done ?_
                              refine At.seq ?_
                              refine At.seq ?_
                              refine At.region ?_
                              refine AtL.fieldAddrB tf_fo47_3 (.inl rfl) rfl rfl rfl ?_
                              refine AtL.load tf_flat45 (.inl rfl) rfl rfl (Cell.own 0 0 rfl rfl rfl) ?_
                              refine AtL.lenL Tryz.underlying45 (.inl rfl) rfl rfl ?_
                              refine AtL.eqi (.inl rfl) rfl rfl rfl ?_
                              refine AtL.done ?_
                              refine At.cond rfl ?_ ?_
                              · intro hc9
                                have hc9 : (x.l.length : Int) = 32 := of_decide_eq_true hc9
                                refine At.seq ?_
                                refine At.region ?_
                                refine AtL.build (cs := [str [], str [], .int .i64 0, .slice none 0 0]) tf_lay47 (.inl rfl) rfl rfl rfl ?_
                                refine AtL.store (H' := [(b15, .cells #[str ((spF 32 (ls.getD 0 [])).getD 0 []), str ((spF 32 (ls.getD 0 [])).getD 1 []), .int .i64 ((((spF 32 (ls.getD 0 [])).getD 2 []).getD 7 0 - 48).toNat : Int), .slice x.A x.l.length x.C] 47 (0, 0))] :: x.s :: s5 :: [(b1, .cells #[str [], str [], .int .i64 0, .slice none 0 0] 47 (0, 0))] :: H) 3 0 tf_sz47 (.inl rfl) rfl rfl rfl rfl rfl rfl rfl rfl rfl ?_
                                refine AtL.assign (.inl rfl) rfl rfl ?_
                                refine AtL.done ?_
                                refine At.nil ?_
                                have hp : parseF b = (.zero, 431) := by rw [hp0, headF_eq, if_neg hn3, if_neg (by rw [hver]; simp), if_neg (by rw [← (ver_dig hver).1, ← (ver_dig hver).2]; exact hc5), if_neg (by omega), if_neg (by simpa using hc7), hfl, hst, if_pos (by omega)]
                                exact At.retMP (vs := [.agg #[str [], str [], .int .i64 0, .slice none 0 0], .int .i64 431]) (H2 := [] :: H) [0] 5 rfl rfl Tryz.func60 rfl ⟨⟨_, rfl, LoadsTo.agg (cs := [str [], str [], .int .i64 0, .slice none 0 0]) tf_agg47 rfl (cellsOwn 4 0 0 rfl rfl rfl)⟩, rfl, trivial⟩ (⟨Sl.nil, by rw [hp]; rfl, by rw [hp]; rfl, rfl⟩)
                              · intro hc9
                                have hc9 : ¬ ((x.l.length : Int) = 32) := of_decide_eq_false hc9
                                refine At.skip ?_
                                refine At.seq ?_
                                refine At.region ?_
                                refine AtL.move (.inl rfl) rfl rfl ?_
                                refine AtL.call tf_body53 (.inl rfl) rfl rfl (cut_ok (x := ((ls.drop 1).getD k [])) 58 (by omega) T) ?_
                                rintro _ _ ⟨rfl, rfl⟩
                                refine AtL.move (.inl rfl) rfl rfl ?_
                                refine AtL.extract (.inl rfl) rfl rfl rfl ?_
                                refine AtL.extract (.inl rfl) rfl rfl rfl ?_
                                refine AtL.extract (.inl rfl) rfl rfl rfl ?_
                                refine AtL.assign (.inl rfl) rfl rfl ?_
                                refine AtL.assign (.inl rfl) rfl rfl ?_
                                refine AtL.assign (.inl rfl) rfl rfl ?_
                                refine AtL.done ?_
                                refine At.seq ?_
                                refine At.region ?_
                                refine AtL.move (.inl rfl) rfl rfl ?_
                                refine AtL.call tf_body102 (.inl rfl) rfl rfl (trim_ok (x := (Lib.cut ((ls.drop 1).getD k []) [58]).2.1) (cs := [9, 32]) (by omega) (by decide) (by decide)) ?_
                                rintro _ _ ⟨rfl, rfl⟩
                                refine AtL.assign (.inl rfl) rfl rfl ?_
                                refine AtL.done ?_
                                refine At.seq ?_
                                refine At.seq ?_
                                refine At.region ?_
                                refine AtL.move (.inl rfl) rfl rfl ?_
                                refine AtL.not (.inl rfl) rfl rfl ?_
                                refine AtL.move (.inl rfl) rfl rfl ?_
                                refine AtL.join 4 (E' := [(134, .bool (decide ((((Lib.cut ((ls.drop 1).getD k []) [58]).2.2) = false) ∨ ((wordF ((Lib.cut ((ls.drop 1).getD k []) [58]).1) 64) = false)))), (2, .pointer (some ⟨b1, 0, none⟩)), (9, .pointer (some ⟨b15, 0, none⟩)), (12, str ((Lib.cut ((ls.drop 1).getD k []) [58]).1)), (13, str (Lib.trimS ((Lib.cut ((ls.drop 1).getD k []) [58]).2.1) [9, 32])), (109, .slice A17 (ls.drop 1).length C18), (110, .int .i64 ((ls.drop 1).length : Int)), (111, .int .i64 (k : Int))]) (H' := [(b15, .cells #[str ((spF 32 (ls.getD 0 [])).getD 0 []), str ((spF 32 (ls.getD 0 [])).getD 1 []), .int .i64 ((((spF 32 (ls.getD 0 [])).getD 2 []).getD 7 0 - 48).toNat : Int), .slice x.A x.l.length x.C] 47 (0, 0))] :: x.s :: s5 :: [(b1, .cells #[str [], str [], .int .i64 0, .slice none 0 0] 47 (0, 0))] :: H) (fun J => ?_) ?_
                                · refine AtL.split (t := 130) rfl ?_ ?_
                                  · intro hs130
                                    have hs130 : ((Lib.cut ((ls.drop 1).getD k []) [58]).2.2) = false := bnot_true hs130
                                    refine AtL.skipped rfl rfl rfl rfl rfl rfl ?_
                                    refine AtL.skipped rfl rfl rfl rfl rfl rfl ?_
                                    refine AtL.skipped rfl rfl rfl rfl rfl rfl ?_
                                    refine AtL.pickT (.inl rfl) rfl rfl rfl ?_
                                    exact J _ (by exact ⟨(boolIs (by clear J; first | (simp [hs130]; done) | (simp_all; done) | grind)), rfl, rfl, rfl, rfl, rfl, rfl, rfl, trivial⟩)
                                  · intro hs130
                                    have hs130 : ((Lib.cut ((ls.drop 1).getD k []) [58]).2.2) = true := bnot_false hs130
                                    refine AtL.move (.inr ⟨_, _, _, rfl, rfl, rfl, rfl⟩) rfl rfl ?_
                                    refine AtL.call tf_body99 (.inr ⟨_, _, _, rfl, rfl, rfl, rfl⟩) rfl rfl (word_ok (l := (Lib.cut ((ls.drop 1).getD k []) [58]).1) (by omega) 64) ?_
                                    rintro _ _ ⟨rfl, rfl⟩
                                    refine AtL.not (.inr ⟨_, _, _, rfl, rfl, rfl, rfl⟩) rfl rfl ?_
                                    refine AtL.pickF (.inl rfl) rfl rfl rfl ?_
                                    exact J _ (by exact ⟨(boolIs (by clear J; first | (simp [hs130]; done) | (simp_all; done) | grind)), rfl, rfl, rfl, rfl, rfl, rfl, rfl, trivial⟩)
                                · skip
                                  refine AtL.move (.inl rfl) rfl rfl ?_
                                  refine AtL.join 4 (E' := [(139, .bool (decide (((((Lib.cut ((ls.drop 1).getD k []) [58]).2.2) = false) ∨ ((wordF ((Lib.cut ((ls.drop 1).getD k []) [58]).1) 64) = false)) ∨ ((valueF (Lib.trimS ((Lib.cut ((ls.drop 1).getD k []) [58]).2.1) [9, 32])) = false)))), (2, .pointer (some ⟨b1, 0, none⟩)), (9, .pointer (some ⟨b15, 0, none⟩)), (12, str ((Lib.cut ((ls.drop 1).getD k []) [58]).1)), (13, str (Lib.trimS ((Lib.cut ((ls.drop 1).getD k []) [58]).2.1) [9, 32])), (109, .slice A17 (ls.drop 1).length C18), (110, .int .i64 ((ls.drop 1).length : Int)), (111, .int .i64 (k : Int))]) (H' := [(b15, .cells #[str ((spF 32 (ls.getD 0 [])).getD 0 []), str ((spF 32 (ls.getD 0 [])).getD 1 []), .int .i64 ((((spF 32 (ls.getD 0 [])).getD 2 []).getD 7 0 - 48).toNat : Int), .slice x.A x.l.length x.C] 47 (0, 0))] :: x.s :: s5 :: [(b1, .cells #[str [], str [], .int .i64 0, .slice none 0 0] 47 (0, 0))] :: H) (fun J => ?_) ?_
                                  · refine AtL.split (t := 135) rfl ?_ ?_
                                    · intro hs135
                                      have hs135 : (((Lib.cut ((ls.drop 1).getD k []) [58]).2.2) = false) ∨ ((wordF ((Lib.cut ((ls.drop 1).getD k []) [58]).1) 64) = false) := of_decide_eq_true hs135
                                      refine AtL.skipped rfl rfl rfl rfl rfl rfl ?_
                                      refine AtL.skipped rfl rfl rfl rfl rfl rfl ?_
                                      refine AtL.skipped rfl rfl rfl rfl rfl rfl ?_
                                      refine AtL.pickT (.inl rfl) rfl rfl rfl ?_
                                      exact J _ (by exact ⟨(boolIs (by clear J; first | (simp [hs135]; done) | (simp_all; done) | grind)), rfl, rfl, rfl, rfl, rfl, rfl, rfl, trivial⟩)
                                    · intro hs135
                                      have hs135 : ¬ ((((Lib.cut ((ls.drop 1).getD k []) [58]).2.2) = false) ∨ ((wordF ((Lib.cut ((ls.drop 1).getD k []) [58]).1) 64) = false)) := of_decide_eq_false hs135
                                      refine AtL.move (.inr ⟨_, _, _, rfl, rfl, rfl, rfl⟩) rfl rfl ?_
                                      refine AtL.call tf_body103 (.inr ⟨_, _, _, rfl, rfl, rfl, rfl⟩) rfl rfl (value_ok (l := Lib.trimS ((Lib.cut ((ls.drop 1).getD k []) [58]).2.1) [9, 32]) (by omega)) ?_
                                      rintro _ _ ⟨rfl, rfl⟩
                                      refine AtL.not (.inr ⟨_, _, _, rfl, rfl, rfl, rfl⟩) rfl rfl ?_
                                      refine AtL.pickF (.inl rfl) rfl rfl rfl ?_
                                      exact J _ (by exact ⟨(boolIs (by clear J; first | (simp [hs135]; done) | (simp_all; done) | grind)), rfl, rfl, rfl, rfl, rfl, rfl, rfl, trivial⟩)
                                  · skip
                                    refine AtL.done ?_
                                    refine At.cond rfl ?_ ?_
                                    · intro hc10
                                      have hc10 : ((((Lib.cut ((ls.drop 1).getD k []) [58]).2.2) = false) ∨ ((wordF ((Lib.cut ((ls.drop 1).getD k []) [58]).1) 64) = false)) ∨ ((valueF (Lib.trimS ((Lib.cut ((ls.drop 1).getD k []) [58]).2.1) [9, 32])) = false) := of_decide_eq_true hc10
                                      refine At.seq ?_
                                      refine At.region ?_
                                      refine AtL.build (cs := [str [], str [], .int .i64 0, .slice none 0 0]) tf_lay47 (.inl rfl) rfl rfl rfl ?_
                                      refine AtL.store (H' := [(b15, .cells #[str ((spF 32 (ls.getD 0 [])).getD 0 []), str ((spF 32 (ls.getD 0 [])).getD 1 []), .int .i64 ((((spF 32 (ls.getD 0 [])).getD 2 []).getD 7 0 - 48).toNat : Int), .slice x.A x.l.length x.C] 47 (0, 0))] :: x.s :: s5 :: [(b1, .cells #[str [], str [], .int .i64 0, .slice none 0 0] 47 (0, 0))] :: H) 3 0 tf_sz47 (.inl rfl) rfl rfl rfl rfl rfl rfl rfl rfl rfl ?_
                                      refine AtL.assign (.inl rfl) rfl rfl ?_
                                      refine AtL.done ?_
                                      refine At.nil ?_
                                      have hp : parseF b = (.zero, 400) := by rw [hp0, headF_eq, if_neg hn3, if_neg (by rw [hver]; simp), if_neg (by rw [← (ver_dig hver).1, ← (ver_dig hver).2]; exact hc5), if_neg (by omega), if_neg (by simpa using hc7), hfl, hst, if_neg (by omega), if_pos (by simpa only [or_assoc, Bool.not_eq_true', Bool.not_eq_false, Bool.not_eq_true] using hc10)]
                                      exact At.retMP (vs := [.agg #[str [], str [], .int .i64 0, .slice none 0 0], .int .i64 400]) (H2 := [] :: H) [0] 5 rfl rfl Tryz.func60 rfl ⟨⟨_, rfl, LoadsTo.agg (cs := [str [], str [], .int .i64 0, .slice none 0 0]) tf_agg47 rfl (cellsOwn 4 0 0 rfl rfl rfl)⟩, rfl, trivial⟩ (⟨Sl.nil, by rw [hp]; rfl, by rw [hp]; rfl, rfl⟩)
                                    · intro hc10
                                      have hc10 : ¬ (((((Lib.cut ((ls.drop 1).getD k []) [58]).2.2) = false) ∨ ((wordF ((Lib.cut ((ls.drop 1).getD k []) [58]).1) 64) = false)) ∨ ((valueF (Lib.trimS ((Lib.cut ((ls.drop 1).getD k []) [58]).2.1) [9, 32])) = false)) := of_decide_eq_false hc10
                                      refine At.skip ?_
                                      refine At.region ?_
                                      refine AtL.fieldAddrB tf_fo47_3 (.inl rfl) rfl rfl rfl ?_
                                      refine AtL.load tf_flat45 (.inl rfl) rfl rfl (Cell.own 0 0 rfl rfl rfl) ?_
                                      refine AtL.move (.inl rfl) rfl rfl ?_
                                      refine AtL.move (.inl rfl) rfl rfl ?_
                                      refine AtL.build (cs := [str ((Lib.cut ((ls.drop 1).getD k []) [58]).1), str (Lib.trimS ((Lib.cut ((ls.drop 1).getD k []) [58]).2.1) [9, 32])]) tf_lay78 (.inl rfl) rfl rfl rfl ?_
                                      refine AtL.buildSlice (cs := [str ((Lib.cut ((ls.drop 1).getD k []) [58]).1), str (Lib.trimS ((Lib.cut ((ls.drop 1).getD k []) [58]).2.1) [9, 32])]) Tryz.underlying45 tf_zero78 tf_sz78 rfl rfl (.inl rfl) rfl rfl rfl ?_
                                      intro b20
                                      refine AtL.own1 tyField (l := ([((Lib.cut ((ls.drop 1).getD k []) [58]).1, Lib.trimS ((Lib.cut ((ls.drop 1).getD k []) [58]).2.1) [9, 32])] : List (List UInt8 × List UInt8))) rfl rfl (by first | decide | simp) ?_
                                      intro s21 o22
                                      refine AtL.append (l := x.l) (news := [((Lib.cut ((ls.drop 1).getD k []) [58]).1, Lib.trimS ((Lib.cut ((ls.drop 1).getD k []) [58]).2.1) [9, 32])]) 2 tf_el45 rfl x.own (o22.rd (i := 0) rfl) (by first | omega | (simp only [List.length_append, List.length_cons, List.length_nil]; omega) | (simp; done) | (simp; omega)) (.inl rfl) rfl rfl rfl ?_
                                      intro A23 C24 s25 o26
                                      refine AtL.fieldAddrB tf_fo47_3 (.inl rfl) rfl rfl rfl ?_
                                      refine AtL.store (H' := s21 :: [(b15, .cells #[str ((spF 32 (ls.getD 0 [])).getD 0 []), str ((spF 32 (ls.getD 0 [])).getD 1 []), .int .i64 ((((spF 32 (ls.getD 0 [])).getD 2 []).getD 7 0 - 48).toNat : Int), .slice A23 (x.l ++ ([((Lib.cut ((ls.drop 1).getD k []) [58]).1, Lib.trimS ((Lib.cut ((ls.drop 1).getD k []) [58]).2.1) [9, 32])])).length C24] 47 (0, 0))] :: s25 :: s5 :: [(b1, .cells #[str [], str [], .int .i64 0, .slice none 0 0] 47 (0, 0))] :: H) 1 0 tf_sz45 (.inl rfl) rfl rfl rfl rfl rfl rfl rfl rfl rfl ?_
                                      refine AtL.done ?_
                                      refine At.inBlock ?_
                                      refine At.region ?_
                                      refine AtL.add (z := (k : Int) + 1) (.inl rfl) rfl rfl rfl (w64 (by omega) (by omega)) ?_
                                      refine AtL.move (.inl rfl) rfl rfl ?_
                                      refine AtL.done ?_
                                      refine At.pick (H' := [(b15, .cells #[str ((spF 32 (ls.getD 0 [])).getD 0 []), str ((spF 32 (ls.getD 0 [])).getD 1 []), .int .i64 ((((spF 32 (ls.getD 0 [])).getD 2 []).getD 7 0 - 48).toNat : Int), .slice A23 (x.l ++ ([((Lib.cut ((ls.drop 1).getD k []) [58]).1, Lib.trimS ((Lib.cut ((ls.drop 1).getD k []) [58]).2.1) [9, 32])])).length C24] 47 (0, 0))] :: s25 :: s5 :: [(b1, .cells #[str [], str [], .int .i64 0, .slice none 0 0] 47 (0, 0))] :: H) [1, 2, 3, 4] 5 rfl rfl ?_
                                      refine ihL1 (k + 1) (⟨A23, C24, x.l ++ ([((Lib.cut ((ls.drop 1).getD k []) [58]).1, Lib.trimS ((Lib.cut ((ls.drop 1).getD k []) [58]).2.1) [9, 32])]), s25, o26⟩) (⟨by omega, ⟨by simp; omega, by omega⟩, by rw [hfl, hst, if_neg (by omega), if_neg (by simp only [not_or] at hc10 ⊢; exact ⟨by simpa using hc10.1.1, by simpa using hc10.1.2, by simpa using hc10.2⟩)]; cases fieldsF ((ls.drop 1).drop (k + 1)) (k + 1) <;> simp, fun f hf => by
                                            rcases List.mem_append.1 hf with hf | hf
                                            · exact hxb f hf
                                            · simp only [List.mem_singleton] at hf; subst hf; exact ⟨by dsimp only; omega, by dsimp only; omega⟩⟩) (by omega) _ ?_
                                      exact ⟨rfl, rfl, rfl, rfl, (by first | rfl | exact slLen (by simp [hxl]) | exact intEq (by omega) | exact intEq (by simp [hxl]) | exact slLen (by simp [hxl]; omega)), trivial⟩
                            · intro hc8
                              have hc8 : ¬ ((k : Int) < ((ls.drop 1).length : Int)) := of_decide_eq_false hc8
                              refine At.exit rfl ?_
                              refine At.seq ?_
                              refine At.seq ?_
                              refine At.region ?_
                              refine AtL.loadN (cs := [str ((spF 32 (ls.getD 0 [])).getD 0 []), str ((spF 32 (ls.getD 0 [])).getD 1 []), .int .i64 ((((spF 32 (ls.getD 0 [])).getD 2 []).getD 7 0 - 48).toNat : Int), .slice x.A x.l.length x.C]) tf_agg47 (.inl rfl) rfl rfl rfl (cellsOwn 0 0 0 rfl rfl rfl) ?_
                              refine AtL.call tf_body104 (.inl rfl) rfl rfl (hosts_ok (fs := x.l) (x.own.rd (i := 1) rfl) (by omega) (fun f hf => by have := hxb f hf; omega)) ?_
                              rintro _ _ ⟨rfl, rfl⟩
                              refine AtL.not (.inl rfl) rfl rfl ?_
                              refine AtL.done ?_
                              refine At.cond rfl ?_ ?_
                              · intro hc11
                                have hc11 : (hostsF x.l ((((spF 32 (ls.getD 0 [])).getD 2 []).getD 7 0 - 48).toNat : Int)) = false := bnot_true hc11
                                refine At.seq ?_
                                refine At.region ?_
                                refine AtL.build (cs := [str [], str [], .int .i64 0, .slice none 0 0]) tf_lay47 (.inl rfl) rfl rfl rfl ?_
                                refine AtL.store (H' := [(b15, .cells #[str ((spF 32 (ls.getD 0 [])).getD 0 []), str ((spF 32 (ls.getD 0 [])).getD 1 []), .int .i64 ((((spF 32 (ls.getD 0 [])).getD 2 []).getD 7 0 - 48).toNat : Int), .slice x.A x.l.length x.C] 47 (0, 0))] :: x.s :: s5 :: [(b1, .cells #[str [], str [], .int .i64 0, .slice none 0 0] 47 (0, 0))] :: H) 3 0 tf_sz47 (.inl rfl) rfl rfl rfl rfl rfl rfl rfl rfl rfl ?_
                                refine AtL.assign (.inl rfl) rfl rfl ?_
                                refine AtL.done ?_
                                refine At.nil ?_
                                have hend : fieldsF (ls.drop 1) 0 = .inr x.l := by rw [hfl, List.drop_eq_nil_of_le (by omega), fieldsF]; simp
                                have hp : parseF b = (.zero, 400) := by rw [hp0, headF_eq, if_neg hn3, if_neg (by rw [hver]; simp), if_neg (by rw [← (ver_dig hver).1, ← (ver_dig hver).2]; exact hc5), if_neg (by omega), if_neg (by simpa using hc7), hend]; simp only []; rw [if_neg (by simpa using hc11)]
                                exact At.retMP (vs := [.agg #[str [], str [], .int .i64 0, .slice none 0 0], .int .i64 400]) (H2 := [] :: H) [0] 5 rfl rfl Tryz.func60 rfl ⟨⟨_, rfl, LoadsTo.agg (cs := [str [], str [], .int .i64 0, .slice none 0 0]) tf_agg47 rfl (cellsOwn 4 0 0 rfl rfl rfl)⟩, rfl, trivial⟩ (⟨Sl.nil, by rw [hp]; rfl, by rw [hp]; rfl, rfl⟩)
                              · intro hc11
                                have hc11 : (hostsF x.l ((((spF 32 (ls.getD 0 [])).getD 2 []).getD 7 0 - 48).toNat : Int)) = true := bnot_false hc11
                                refine At.skip ?_
                                refine At.seq ?_
                                refine At.region ?_
                                refine AtL.loadN (cs := [str ((spF 32 (ls.getD 0 [])).getD 0 []), str ((spF 32 (ls.getD 0 [])).getD 1 []), .int .i64 ((((spF 32 (ls.getD 0 [])).getD 2 []).getD 7 0 - 48).toNat : Int), .slice x.A x.l.length x.C]) tf_agg47 (.inl rfl) rfl rfl rfl (cellsOwn 0 0 0 rfl rfl rfl) ?_
                                refine AtL.store (H' := [(b15, .cells #[str ((spF 32 (ls.getD 0 [])).getD 0 []), str ((spF 32 (ls.getD 0 [])).getD 1 []), .int .i64 ((((spF 32 (ls.getD 0 [])).getD 2 []).getD 7 0 - 48).toNat : Int), .slice x.A x.l.length x.C] 47 (0, 0))] :: x.s :: s5 :: [(b1, .cells #[str ((spF 32 (ls.getD 0 [])).getD 0 []), str ((spF 32 (ls.getD 0 [])).getD 1 []), .int .i64 ((((spF 32 (ls.getD 0 [])).getD 2 []).getD 7 0 - 48).toNat : Int), .slice x.A x.l.length x.C] 47 (0, 0))] :: H) 3 0 tf_sz47 (.inl rfl) rfl rfl rfl rfl rfl rfl rfl rfl rfl ?_
                                refine AtL.assign (.inl rfl) rfl rfl ?_
                                refine AtL.done ?_
                                have hend : fieldsF (ls.drop 1) 0 = .inr x.l := by rw [hfl, List.drop_eq_nil_of_le (by omega), fieldsF]; simp
                                have hp : parseF b = (⟨(spF 32 (ls.getD 0 [])).getD 0 [], (spF 32 (ls.getD 0 [])).getD 1 [], ((((spF 32 (ls.getD 0 [])).getD 2 []).getD 7 0 - 48).toNat : Int), x.l⟩, 200) := by rw [hp0, headF_eq, if_neg hn3, if_neg (by rw [hver]; simp), if_neg (by rw [← (ver_dig hver).1, ← (ver_dig hver).2]; exact hc5), if_neg (by omega), if_neg (by simpa using hc7), hend]; simp only []; rw [if_pos (by simpa using hc11)]
                                exact At.retMP (vs := [.agg #[str ((spF 32 (ls.getD 0 [])).getD 0 []), str ((spF 32 (ls.getD 0 [])).getD 1 []), .int .i64 ((((spF 32 (ls.getD 0 [])).getD 2 []).getD 7 0 - 48).toNat : Int), .slice x.A x.l.length x.C], .int .i64 200]) (H2 := x.s :: H) [1] 4 rfl rfl Tryz.func60 rfl ⟨⟨_, rfl, LoadsTo.agg (cs := [str ((spF 32 (ls.getD 0 [])).getD 0 []), str ((spF 32 (ls.getD 0 [])).getD 1 []), .int .i64 ((((spF 32 (ls.getD 0 [])).getD 2 []).getD 7 0 - 48).toNat : Int), .slice x.A x.l.length x.C]) tf_agg47 rfl (cellsOwn 3 0 0 rfl rfl rfl)⟩, rfl, trivial⟩ (⟨x, by rw [hp]; rfl, by rw [hp], rfl⟩)
                  · skip
                    refine AtL.call tf_body100 (.inl rfl) rfl rfl (version_no (l := (spF 32 (ls.getD 0 [])).getD 2 []) (by have := hw ((spF 32 (ls.getD 0 [])).getD 2 []) (getD_mem (l := spF 32 (ls.getD 0 [])) (i := 2) (by omega)); omega) hver) ?_
                    rintro _ _ ⟨rfl, rfl⟩
                    refine AtL.move (.inl rfl) rfl rfl ?_
                    refine AtL.extract (.inl rfl) rfl rfl rfl ?_
                    refine AtL.extract (.inl rfl) rfl rfl rfl ?_
                    refine AtL.extract (.inl rfl) rfl rfl rfl ?_
                    refine AtL.assign (.inl rfl) rfl rfl ?_
                    refine AtL.assign (.inl rfl) rfl rfl ?_
                    refine AtL.assign (.inl rfl) rfl rfl ?_
                    refine AtL.done ?_
                    refine At.seq ?_
                    refine At.block ?_
                    refine At.seq ?_
                    refine At.region ?_
                    refine AtL.move (.inl rfl) rfl rfl ?_
                    refine AtL.not (.inl rfl) rfl rfl ?_
                    refine AtL.assign (.inl rfl) rfl rfl ?_
                    refine AtL.done ?_
                    refine At.condT rfl ?_
                    refine At.seq ?_
                    refine At.region ?_
                    refine AtL.build (cs := [str [], str [], .int .i64 0, .slice none 0 0]) tf_lay47 (.inl rfl) rfl rfl rfl ?_
                    refine AtL.store (H' := s11 :: s5 :: [(b1, .cells #[str [], str [], .int .i64 0, .slice none 0 0] 47 (0, 0))] :: H) 2 0 tf_sz47 (.inl rfl) rfl rfl rfl rfl rfl rfl rfl rfl rfl ?_
                    refine AtL.assign (.inl rfl) rfl rfl ?_
                    refine AtL.done ?_
                    refine At.nil ?_
                    have hp : parseF b = (.zero, 400) := by rw [hp0, headF_eq, if_neg hn3, if_pos hver]
                    exact At.retMP (vs := [.agg #[str [], str [], .int .i64 0, .slice none 0 0], .int .i64 400]) (H2 := [] :: H) [0] 4 rfl rfl Tryz.func60 rfl ⟨⟨_, rfl, LoadsTo.agg (cs := [str [], str [], .int .i64 0, .slice none 0 0]) tf_agg47 rfl (cellsOwn 3 0 0 rfl rfl rfl)⟩, rfl, trivial⟩ (⟨Sl.nil, by rw [hp]; rfl, by rw [hp]; rfl, rfl⟩)
end Go.Proofs.YtlkdmbpbjhjkfaaGreatDoor
namespace Go.Proofs
open Go.Shelf
def Tryz.lays172_ren : Go.Shelf.Ren := ⟨fun | 172 => 94 | 244 => 135 | 245 => 136 | 247 => 175 | 279 => 176 | 280 => 177 | 281 => 178 | 282 => 179 | 287 => 200 | 316 => 201 | 171 => 42 | 205 => 202 | 321 => 219 | 322 => 220 | 243 => 61 | 246 => 105 | 283 => 151 | 284 => 152 | 285 => 153 | 286 => 154 | 129 => 187 | 317 => 186 | 318 => 188 | 319 => 189 | 320 => 190 | 337 => 215 | 338 => 216 | n => n, fun | 9 => 9 | 3 => 3 | 75 => 111 | 76 => 112 | 4 => 4 | 5 => 5 | 167 => 207 | 37 => 22 | 0 => 0 | 85 => 208 | 2 => 2 | 168 => 210 | 53 => 188 | 175 => 227 | 46 => 156 | 210 => 230 | 127 => 153 | 145 => 258 | 143 => 256 | 21 => 21 | 171 => 187 | 173 => 191 | 212 => 220 | 51 => 196 | 20 => 20 | 213 => 221 | 232 => 266 | 233 => 267 | 80 => 115 | n => n, fun | 15 => 2 | 16 => 3 | 17 => 1 | 18 => 6 | 19 => 7 | n => n⟩
theorem Tryz.lays172 : Go.Proofs.Lays.n172 Tryz.prog Tryz.lays172_ren := {
  mixed := by kernel_rfl
  f129 := Tryz.func187.trans (congrArg some (by kernel_rfl))
  f171 := Tryz.func42.trans (congrArg some (by kernel_rfl))
  f172 := Tryz.func94.trans (congrArg some (by kernel_rfl))
  f205 := Tryz.func202.trans (congrArg some (by kernel_rfl))
  f243 := Tryz.func61.trans (congrArg some (by kernel_rfl))
  f244 := Tryz.func135.trans (congrArg some (by kernel_rfl))
  f245 := Tryz.func136.trans (congrArg some (by kernel_rfl))
  f246 := Tryz.func105.trans (congrArg some (by kernel_rfl))
  f247 := Tryz.func175.trans (congrArg some (by kernel_rfl))
  f279 := Tryz.func176.trans (congrArg some (by kernel_rfl))
  f280 := Tryz.func177.trans (congrArg some (by kernel_rfl))
  f281 := Tryz.func178.trans (congrArg some (by kernel_rfl))
  f282 := Tryz.func179.trans (congrArg some (by kernel_rfl))
  f283 := Tryz.func151.trans (congrArg some (by kernel_rfl))
  f284 := Tryz.func152.trans (congrArg some (by kernel_rfl))
  f285 := Tryz.func153.trans (congrArg some (by kernel_rfl))
  f286 := Tryz.func154.trans (congrArg some (by kernel_rfl))
  f287 := Tryz.func200.trans (congrArg some (by kernel_rfl))
  f316 := Tryz.func201.trans (congrArg some (by kernel_rfl))
  f317 := Tryz.func186.trans (congrArg some (by kernel_rfl))
  f318 := Tryz.func188.trans (congrArg some (by kernel_rfl))
  f319 := Tryz.func189.trans (congrArg some (by kernel_rfl))
  f320 := Tryz.func190.trans (congrArg some (by kernel_rfl))
  f321 := Tryz.func219.trans (congrArg some (by kernel_rfl))
  f322 := Tryz.func220.trans (congrArg some (by kernel_rfl))
  f337 := Tryz.func215.trans (congrArg some (by kernel_rfl))
  f338 := Tryz.func216.trans (congrArg some (by kernel_rfl))
  t0 := Tryz.underlying0
  a0 := Tryz.isAgg0
  z0 := Tryz.sizeOf0
  v0 := Tryz.zeroValue0
  t2 := Tryz.underlying2
  a2 := Tryz.isAgg2
  z2 := Tryz.sizeOf2
  v2 := Tryz.zeroValue2
  t3 := Tryz.underlying3
  a3 := Tryz.isAgg3
  z3 := Tryz.sizeOf3
  v3 := Tryz.zeroValue3
  t4 := Tryz.underlying4
  a4 := Tryz.isAgg4
  z4 := Tryz.sizeOf4
  v4 := Tryz.zeroValue4
  t5 := Tryz.underlying5
  a5 := Tryz.isAgg5
  z5 := Tryz.sizeOf5
  v5 := Tryz.zeroValue5
  t9 := Tryz.underlying9
  a9 := Tryz.isAgg9
  z9 := Tryz.sizeOf9
  v9 := Tryz.zeroValue9
  t20 := Tryz.underlying20
  a20 := Tryz.isAgg20
  z20 := Tryz.sizeOf20
  v20 := Tryz.zeroValue20
  t21 := Tryz.underlying21
  a21 := Tryz.isAgg21
  z21 := Tryz.sizeOf21
  v21 := Tryz.zeroValue21
  t37 := Tryz.underlying22
  a37 := Tryz.isAgg22
  z37 := Tryz.sizeOf22
  v37 := Tryz.zeroValue22
  t46 := Tryz.underlying156
  a46 := Tryz.isAgg156
  z46 := Tryz.sizeOf156
  v46 := Tryz.zeroValue156
  t51 := Tryz.underlying196
  a51 := Tryz.isAgg196
  z51 := Tryz.sizeOf196
  v51 := Tryz.zeroValue196
  t53 := Tryz.underlying188
  a53 := Tryz.isAgg188
  z53 := Tryz.sizeOf188
  v53 := Tryz.zeroValue188
  t75 := Tryz.underlying111
  a75 := Tryz.isAgg111
  z75 := Tryz.sizeOf111
  v75 := Tryz.zeroValue111
  t76 := Tryz.underlying112
  a76 := Tryz.isAgg112
  z76 := Tryz.sizeOf112
  v76 := Tryz.zeroValue112
  t85 := Tryz.underlying208
  a85 := Tryz.isAgg208
  z85 := Tryz.sizeOf208
  v85 := Tryz.zeroValue208
  t127 := Tryz.underlying153
  a127 := Tryz.isAgg153
  z127 := Tryz.sizeOf153
  v127 := Tryz.zeroValue153
  t143 := Tryz.underlying256
  a143 := Tryz.isAgg256
  z143 := Tryz.sizeOf256
  v143 := Tryz.zeroValue256
  t145 := Tryz.underlying258
  a145 := Tryz.isAgg258
  z145 := Tryz.sizeOf258
  v145 := Tryz.zeroValue258
  t167 := Tryz.underlying207
  a167 := Tryz.isAgg207
  z167 := Tryz.sizeOf207
  v167 := Tryz.zeroValue207
  t168 := Tryz.underlying210
  a168 := Tryz.isAgg210
  z168 := Tryz.sizeOf210
  v168 := Tryz.zeroValue210
  t171 := Tryz.underlying187
  a171 := Tryz.isAgg187
  z171 := Tryz.sizeOf187
  v171 := Tryz.zeroValue187
  t173 := Tryz.underlying191
  a173 := Tryz.isAgg191
  z173 := Tryz.sizeOf191
  v173 := Tryz.zeroValue191
  t175 := Tryz.underlying227
  a175 := Tryz.isAgg227
  z175 := Tryz.sizeOf227
  v175 := Tryz.zeroValue227
  t210 := Tryz.underlying230
  a210 := Tryz.isAgg230
  z210 := Tryz.sizeOf230
  v210 := Tryz.zeroValue230
  t212 := Tryz.underlying220
  a212 := Tryz.isAgg220
  z212 := Tryz.sizeOf220
  v212 := Tryz.zeroValue220
  t213 := Tryz.underlying221
  a213 := Tryz.isAgg221
  z213 := Tryz.sizeOf221
  t232 := Tryz.underlying266
  a232 := Tryz.isAgg266
  z232 := Tryz.sizeOf266
  v232 := Tryz.zeroValue266
  t233 := Tryz.underlying267
  a233 := Tryz.isAgg267
  z233 := Tryz.sizeOf267
  v233 := Tryz.zeroValue267
  g15 := by kernel_rfl
  g16 := by kernel_rfl
  g17 := by kernel_rfl
  g18 := by kernel_rfl
  g19 := by kernel_rfl }
open Go.RowKit in
theorem Tryz.strconv_Atoi (s : ByteArray) (n : Int) (hl : s.size ≤ 18) (h : Lib.atoi s.data.toList = some n) (w : World) :
    Calls Tryz.prog 94 #[.string s] w fun e w' => e = .returned (.tuple #[.int .i64 n, .nilIface]) ∧ ∃ t, w' = Lib.bytesWorld w 5 t := Any.strconv_Atoi Tryz.lays172 s n hl h w
end Go.Proofs
namespace Go.Proofs.YtlkdmbpbjhjkfaaGreatDoor
set_option linter.unusedVariables false
set_option linter.unusedSimpArgs false
set_option maxRecDepth 100000
theorem len_te {fs : List Fld} (h : (0 : Int) < ((fieldF fs [116, 114, 97, 110, 115, 102, 101, 114, 45, 101, 110, 99, 111, 100, 105, 110, 103]).2 : Int)) : lengthF fs = (0, 501) := by
  rw [lengthF, if_pos (by show 0 < (fieldF fs [116, 114, 97, 110, 115, 102, 101, 114, 45, 101, 110, 99, 111, 100, 105, 110, 103]).2; omega)]
theorem len_no {fs : List Fld} (h : ¬ (0 : Int) < ((fieldF fs [116, 114, 97, 110, 115, 102, 101, 114, 45, 101, 110, 99, 111, 100, 105, 110, 103]).2 : Int)) {L : List (List UInt8)} (hL : L = allF fs [99, 111, 110, 116, 101, 110, 116, 45, 108, 101, 110, 103, 116, 104]) (h0 : L = []) : lengthF fs = (-1, 200) := by
  rw [lengthF, if_neg (by show ¬ 0 < (fieldF fs [116, 114, 97, 110, 115, 102, 101, 114, 45, 101, 110, 99, 111, 100, 105, 110, 103]).2; omega), show allF fs CLEN = [] from hL.symm.trans h0]
theorem len_bad {fs : List Fld} (h : ¬ (0 : Int) < ((fieldF fs [116, 114, 97, 110, 115, 102, 101, 114, 45, 101, 110, 99, 111, 100, 105, 110, 103]).2 : Int)) {L : List (List UInt8)} (hL : L = allF fs [99, 111, 110, 116, 101, 110, 116, 45, 108, 101, 110, 103, 116, 104]) {k : Nat} (hk : k < L.length) (hb : (sizeF (L.getD k [])).isSome = false ∨ ¬ L.getD k [] = L.getD 0 []) : lengthF fs = (0, 400) := by
  rw [lengthF, if_neg (by show ¬ 0 < (fieldF fs [116, 114, 97, 110, 115, 102, 101, 114, 45, 101, 110, 99, 111, 100, 105, 110, 103]).2; omega), show allF fs CLEN = L from hL.symm]
  cases L with
  | nil => simp at hk
  | cons f r =>
    show (if (r.all fun s => decide (s = f)) = true then _ else _) = _
    by_cases hr : (r.all fun s => decide (s = f)) = true
    · rw [if_pos hr]
      have he : (f :: r).getD k [] = f := by
        cases k with
        | zero => rfl
        | succ k =>
          have hm : r.getD k [] ∈ r := getD_mem (by simpa using hk)
          exact of_decide_eq_true (List.all_eq_true.1 hr _ hm)
      rcases hb with hb | hb
      · rw [he] at hb
        cases hq : sizeF f with
        | none => rfl
        | some n => rw [hq] at hb; cases hb
      · exact absurd he hb
    · rw [if_neg hr]
theorem len_ok {fs : List Fld} (h : ¬ (0 : Int) < ((fieldF fs [116, 114, 97, 110, 115, 102, 101, 114, 45, 101, 110, 99, 111, 100, 105, 110, 103]).2 : Int)) {L : List (List UInt8)} (hL : L = allF fs [99, 111, 110, 116, 101, 110, 116, 45, 108, 101, 110, 103, 116, 104]) (h0 : 0 < L.length) (hall : ∀ k, k < L.length → L.getD k [] = L.getD 0 []) {n : Nat} (hn : sizeF (L.getD 0 []) = some n) : lengthF fs = if 65535 < n then (0, 413) else ((n : Int), 200) := by
  rw [lengthF, if_neg (by show ¬ 0 < (fieldF fs [116, 114, 97, 110, 115, 102, 101, 114, 45, 101, 110, 99, 111, 100, 105, 110, 103]).2; omega), show allF fs CLEN = L from hL.symm]
  cases L with
  | nil => simp at h0
  | cons f r =>
    have hn : sizeF f = some n := hn
    show (if (r.all fun s => decide (s = f)) = true then _ else _) = _
    rw [if_pos, hn]
    rw [List.all_eq_true]
    intro x hx
    obtain ⟨j, hj⟩ := List.mem_iff_getElem?.1 hx
    have hjl := (List.getElem?_eq_some_iff.1 hj).1
    have := hall (j + 1) (by simp; omega)
    simp [hj] at this
    simpa using this
theorem size_cond {s : List UInt8} : (sizeF s).isSome = false ↔ ((s = [] ∨ (10 : Int) < (s.length : Int)) ∨ ¬ Lib.trimS s [48, 49, 50, 51, 52, 53, 54, 55, 56, 57] = []) := by
  rw [size_some]
  show (decide (s ≠ []) && decide (s.length ≤ 10) && decide (Lib.trimS s [48, 49, 50, 51, 52, 53, 54, 55, 56, 57] = [])) = false ↔ _
  by_cases h1 : s = []
  · simp [h1]
  · by_cases h2 : s.length ≤ 10
    · by_cases h3 : Lib.trimS s [48, 49, 50, 51, 52, 53, 54, 55, 56, 57] = []
      · simp [h1, h2, h3]; omega
      · simp [h1, h2, h3]
    · have : (10 : Int) < (s.length : Int) := by omega
      simp [h1, h2, this]
theorem atoi_ok {w0 : World} {base : Nat} {H : List Seg} {s : List UInt8} {n : Int} (h : Lib.atoi s = some n) (hs : s.length ≤ 18) : SCalls Tryz.prog 94 [str s] w0 base H (fun v H' => v = .tuple #[int n, .nilIface] ∧ H' = H) := by
  refine SCalls.of_below fun w S => ?_
  refine (Tryz.strconv_Atoi ⟨⟨s⟩⟩ n (by rw [str_size]; exact hs) h w).mono ?_
  rintro e w' ⟨he, t, rfl⟩
  exact ⟨he, Lib.bytesWorld_below _ _ _⟩
set_option maxHeartbeats 400000 in
theorem length_ok {w0 : World} {base : Nat} {H : List Seg} {m t : List UInt8} {minor : Int} {A : Option Addr} {C : Nat} {fs : List (List UInt8 × List UInt8)} (h : Rd tyField w0 base H A C fs) (hfl : fs.length ≤ 1000) (hb : ∀ f ∈ fs, f.1.length ≤ 140737488355000 ∧ f.2.length ≤ 140737488355000) :
    SCalls Tryz.prog 77 [.agg #[str m, str t, .int .i64 minor, .slice A fs.length C]] w0 base (H) (fun v H' => v = .tuple #[int (lengthF fs).1, int (lengthF fs).2] ∧ H' = H) := by
  have hle0 := h.le
  have hcap0 := h.cap
  refine SCalls.of_walk (n := 59) Tryz.func77 rfl rfl rfl fun cs => ?_
  refine At.seq ?_
  refine At.region ?_
  refine AtL.box (cs := #[str m, str t, .int .i64 minor, .slice A fs.length C]) rfl (.inl rfl) rfl rfl ?_
  intro b1
  refine AtL.assign (.inl rfl) rfl rfl ?_
  refine AtL.assign (.inl rfl) rfl rfl ?_
  refine AtL.done ?_
  refine At.seq ?_
  refine At.seq ?_
  refine At.region ?_
  refine AtL.loadN (cs := [str m, str t, .int .i64 minor, .slice A fs.length C]) tf_agg47 (.inl rfl) rfl rfl rfl (cellsOwn 0 0 0 rfl rfl rfl) ?_
  refine AtL.call tf_body76 (.inl rfl) rfl rfl (field_ok (fs := fs) (Rd.skip 1 h) (nm := [116, 114, 97, 110, 115, 102, 101, 114, 45, 101, 110, 99, 111, 100, 105, 110, 103]) (by decide) hfl hb) ?_
  rintro _ _ ⟨rfl, rfl⟩
  refine AtL.move (.inl rfl) rfl rfl ?_
  refine AtL.extract (.inl rfl) rfl rfl rfl ?_
  refine AtL.extract (.inl rfl) rfl rfl rfl ?_
  refine AtL.assign (.inl rfl) rfl rfl ?_
  refine AtL.assign (.inl rfl) rfl rfl ?_
  refine AtL.done ?_
  refine At.seq ?_
  refine At.region ?_
  refine AtL.move (.inl rfl) rfl rfl ?_
  refine AtL.gtr (.inl rfl) rfl rfl rfl ?_
  refine AtL.done ?_
  refine At.cond rfl ?_ ?_
  · intro hc1
    have hc1 : 0 < ((fieldF fs [116, 114, 97, 110, 115, 102, 101, 114, 45, 101, 110, 99, 111, 100, 105, 110, 103]).2 : Int) := of_decide_eq_true hc1
    refine At.seq ?_
    refine At.region ?_
    refine AtL.assign (.inl rfl) rfl rfl ?_
    refine AtL.assign (.inl rfl) rfl rfl ?_
    refine AtL.done ?_
    refine At.pick (H' := H) [] 1 rfl rfl ?_
    exact At.ret Tryz.func77 rfl rfl (⟨by rw [len_te hc1]; rfl, rfl⟩)
  · intro hc1
    have hc1 : ¬ (0 < ((fieldF fs [116, 114, 97, 110, 115, 102, 101, 114, 45, 101, 110, 99, 111, 100, 105, 110, 103]).2 : Int)) := of_decide_eq_false hc1
    refine At.skip ?_
    refine At.seq ?_
    refine At.region ?_
    refine AtL.loadN (cs := [str m, str t, .int .i64 minor, .slice A fs.length C]) tf_agg47 (.inl rfl) rfl rfl rfl (cellsOwn 0 0 0 rfl rfl rfl) ?_
    refine AtL.call tf_body117 (.inl rfl) rfl rfl (all_ok (fs := fs) (Rd.skip 1 h) (nm := [99, 111, 110, 116, 101, 110, 116, 45, 108, 101, 110, 103, 116, 104]) (by decide) hfl hb) ?_
    rintro _ _ ⟨⟨A2, C3, l4, s5, o6⟩, hx7, rfl, rfl⟩
    have hL : l4 = allF fs [99, 111, 110, 116, 101, 110, 116, 45, 108, 101, 110, 103, 116, 104] := hx7
    have hLb : ∀ s ∈ l4, s.length ≤ 140737488355000 := by rw [hL]; intro s hs; obtain ⟨f, hf, rfl⟩ := List.mem_map.1 hs; exact (hb f (List.mem_filter.1 hf).1).2
    have hLc := Own.le_cap o6
    have hLd := Own.cap_le o6
    refine AtL.assign (.inl rfl) rfl rfl ?_
    refine AtL.done ?_
    refine At.seq ?_
    refine At.seq ?_
    refine At.region ?_
    refine AtL.move (.inl rfl) rfl rfl ?_
    refine AtL.lenL Tryz.underlying109 (.inl rfl) rfl rfl ?_
    refine AtL.eqi (.inl rfl) rfl rfl rfl ?_
    refine AtL.done ?_
    refine At.cond rfl ?_ ?_
    · intro hc2
      have hc2 : (l4.length : Int) = 0 := of_decide_eq_true hc2
      refine At.seq ?_
      refine At.region ?_
      refine AtL.assign (.inl rfl) rfl rfl ?_
      refine AtL.assign (.inl rfl) rfl rfl ?_
      refine AtL.done ?_
      refine At.pick (H' := H) [] 2 rfl rfl ?_
      exact At.ret Tryz.func77 rfl rfl (⟨by rw [len_no hc1 hL (List.eq_nil_of_length_eq_zero (by omega))]; rfl, rfl⟩)
    · intro hc2
      have hc2 : ¬ ((l4.length : Int) = 0) := of_decide_eq_false hc2
      refine At.skip ?_
      refine At.seq ?_
      refine At.seq ?_
      refine At.region ?_
      refine AtL.move (.inl rfl) rfl rfl ?_
      refine AtL.lenL Tryz.underlying109 (.inl rfl) rfl rfl ?_
      refine AtL.move (.inl rfl) rfl rfl ?_
      refine AtL.done ?_
      refine At.block ?_
      refine At.loop (fun (k : Nat) => [(6, .slice A2 l4.length C3), (23, .slice A2 l4.length C3), (24, .int .i64 (l4.length : Int)), (25, .int .i64 (k : Int))]) (fun (k : Nat) => s5 :: [(b1, .cells #[str m, str t, .int .i64 minor, .slice A fs.length C] 47 (0, 0))] :: H) (fun (k : Nat) => k ≤ l4.length ∧ ∀ j, j < k → (sizeF (l4.getD j [])).isSome = true ∧ l4.getD j [] = l4.getD 0 []) (fun (k : Nat) => l4.length - k) 0 (⟨Nat.zero_le _, fun j hj => absurd hj (by omega)⟩) ⟨rfl, rfl, rfl, rfl, trivial⟩ rfl ?_
      rintro k ⟨hk, hall⟩ ihL1
      refine At.seq ?_
      refine At.region ?_
      refine AtL.lss (.inl rfl) rfl rfl rfl ?_
      refine AtL.done ?_
      refine At.seq ?_
      refine At.cond rfl ?_ ?_
      · intro hc3
        have hc3 : (k : Int) < (l4.length : Int) := of_decide_eq_true hc3
        refine At.skip ?_
        refine At.seq ?_
        refine At.block ?_
        refine At.seq ?_
        refine At.region ?_
        refine AtL.indexL k (o6.rd (i := 0) rfl) Tryz.underlying109 tf_sz9 (.inl rfl) rfl rfl rfl rfl (by omega) ?_
        refine AtL.load (v := str (l4.getD k [])) tf_flat9 (.inl rfl) rfl rfl (Rd.cell0 (o6.rd (i := 0) rfl) (getD_some [] (by omega)) rfl) ?_
        refine AtL.assign (.inl rfl) rfl rfl ?_
        refine AtL.done ?_
        refine At.seq ?_
        refine At.region ?_
        refine AtL.move (.inl rfl) rfl rfl ?_
        refine AtL.eqs (a := (l4.getD k [])) (b := []) (.inl rfl) rfl rfl rfl ?_
        refine AtL.move (.inl rfl) rfl rfl ?_
        refine AtL.join 4 (E' := [(35, .bool (decide (((l4.getD k []) = []) ∨ (10 < ((l4.getD k []).length : Int))))), (6, .slice A2 l4.length C3), (8, str (l4.getD k [])), (23, .slice A2 l4.length C3), (24, .int .i64 (l4.length : Int)), (25, .int .i64 (k : Int))]) (H' := s5 :: [(b1, .cells #[str m, str t, .int .i64 minor, .slice A fs.length C] 47 (0, 0))] :: H) (fun J => ?_) ?_
        · refine AtL.split (t := 31) rfl ?_ ?_
          · intro hs31
            have hs31 : (l4.getD k []) = [] := of_decide_eq_true hs31
            refine AtL.skipped rfl rfl rfl rfl rfl rfl ?_
            refine AtL.skipped rfl rfl rfl rfl rfl rfl ?_
            refine AtL.skipped rfl rfl rfl rfl rfl rfl ?_
            refine AtL.pickT (.inl rfl) rfl rfl rfl ?_
            exact J _ (by exact ⟨(boolIs (by clear J; first | (simp [hs31]; done) | (simp_all; done) | grind)), rfl, rfl, rfl, rfl, rfl, trivial⟩)
          · intro hs31
            have hs31 : ¬ ((l4.getD k []) = []) := of_decide_eq_false hs31
            refine AtL.move (.inr ⟨_, _, _, rfl, rfl, rfl, rfl⟩) rfl rfl ?_
            refine AtL.lenS (l := (l4.getD k [])) Tryz.underlying9 (.inr ⟨_, _, _, rfl, rfl, rfl, rfl⟩) rfl rfl ?_
            refine AtL.gtr (.inr ⟨_, _, _, rfl, rfl, rfl, rfl⟩) rfl rfl rfl ?_
            refine AtL.pickF (.inl rfl) rfl rfl rfl ?_
            exact J _ (by exact ⟨(boolIs (by clear J; first | (simp [hs31]; done) | (simp_all; done) | grind)), rfl, rfl, rfl, rfl, rfl, trivial⟩)
        · skip
          refine AtL.move (.inl rfl) rfl rfl ?_
          refine AtL.join 4 (E' := [(40, .bool (decide ((((l4.getD k []) = []) ∨ (10 < ((l4.getD k []).length : Int))) ∨ (¬ (Lib.trimS (l4.getD k []) [48, 49, 50, 51, 52, 53, 54, 55, 56, 57] = []))))), (6, .slice A2 l4.length C3), (8, str (l4.getD k [])), (23, .slice A2 l4.length C3), (24, .int .i64 (l4.length : Int)), (25, .int .i64 (k : Int))]) (H' := s5 :: [(b1, .cells #[str m, str t, .int .i64 minor, .slice A fs.length C] 47 (0, 0))] :: H) (fun J => ?_) ?_
          · refine AtL.split (t := 36) rfl ?_ ?_
            · intro hs36
              have hs36 : ((l4.getD k []) = []) ∨ (10 < ((l4.getD k []).length : Int)) := of_decide_eq_true hs36
              refine AtL.skipped rfl rfl rfl rfl rfl rfl ?_
              refine AtL.skipped rfl rfl rfl rfl rfl rfl ?_
              refine AtL.skipped rfl rfl rfl rfl rfl rfl ?_
              refine AtL.pickT (.inl rfl) rfl rfl rfl ?_
              exact J _ (by exact ⟨(boolIs (by clear J; first | (simp [hs36]; done) | (simp_all; done) | grind)), rfl, rfl, rfl, rfl, rfl, trivial⟩)
            · intro hs36
              have hs36 : ¬ (((l4.getD k []) = []) ∨ (10 < ((l4.getD k []).length : Int))) := of_decide_eq_false hs36
              refine AtL.move (.inr ⟨_, _, _, rfl, rfl, rfl, rfl⟩) rfl rfl ?_
              refine AtL.call tf_body102 (.inr ⟨_, _, _, rfl, rfl, rfl, rfl⟩) rfl rfl (trim_ok (x := (l4.getD k [])) (cs := [48, 49, 50, 51, 52, 53, 54, 55, 56, 57]) (by have := hLb _ (getD_mem (l := l4) (i := k) (d := ([] : List UInt8)) (by omega)); omega) (by decide) (by decide)) ?_
              rintro _ _ ⟨rfl, rfl⟩
              refine AtL.nes (a := Lib.trimS (l4.getD k []) [48, 49, 50, 51, 52, 53, 54, 55, 56, 57]) (b := []) (.inr ⟨_, _, _, rfl, rfl, rfl, rfl⟩) rfl rfl rfl ?_
              refine AtL.pickF (.inl rfl) rfl rfl rfl ?_
              exact J _ (by exact ⟨(boolIs (by clear J; first | (simp [hs36]; done) | (simp_all; done) | grind)), rfl, rfl, rfl, rfl, rfl, trivial⟩)
          · skip
            refine AtL.move (.inl rfl) rfl rfl ?_
            refine AtL.join 6 (E' := [(47, .bool (decide (((((l4.getD k []) = []) ∨ (10 < ((l4.getD k []).length : Int))) ∨ (¬ (Lib.trimS (l4.getD k []) [48, 49, 50, 51, 52, 53, 54, 55, 56, 57] = []))) ∨ (¬ ((l4.getD k []) = (l4.getD 0 [])))))), (6, .slice A2 l4.length C3), (23, .slice A2 l4.length C3), (24, .int .i64 (l4.length : Int)), (25, .int .i64 (k : Int))]) (H' := s5 :: [(b1, .cells #[str m, str t, .int .i64 minor, .slice A fs.length C] 47 (0, 0))] :: H) (fun J => ?_) ?_
            · refine AtL.split (t := 41) rfl ?_ ?_
              · intro hs41
                have hs41 : (((l4.getD k []) = []) ∨ (10 < ((l4.getD k []).length : Int))) ∨ (¬ (Lib.trimS (l4.getD k []) [48, 49, 50, 51, 52, 53, 54, 55, 56, 57] = [])) := of_decide_eq_true hs41
                refine AtL.skipped rfl rfl rfl rfl rfl rfl ?_
                refine AtL.skipped rfl rfl rfl rfl rfl rfl ?_
                refine AtL.skipped rfl rfl rfl rfl rfl rfl ?_
                refine AtL.skipped rfl rfl rfl rfl rfl rfl ?_
                refine AtL.skipped rfl rfl rfl rfl rfl rfl ?_
                refine AtL.pickT (.inl rfl) rfl rfl rfl ?_
                exact J _ (by exact ⟨(boolIs (by clear J; first | (simp [hs41]; done) | (simp_all; done) | grind)), rfl, rfl, rfl, rfl, trivial⟩)
              · intro hs41
                have hs41 : ¬ ((((l4.getD k []) = []) ∨ (10 < ((l4.getD k []).length : Int))) ∨ (¬ (Lib.trimS (l4.getD k []) [48, 49, 50, 51, 52, 53, 54, 55, 56, 57] = []))) := of_decide_eq_false hs41
                refine AtL.move (.inr ⟨_, _, _, rfl, rfl, rfl, rfl⟩) rfl rfl ?_
                refine AtL.move (.inr ⟨_, _, _, rfl, rfl, rfl, rfl⟩) rfl rfl ?_
                refine AtL.indexL 0 (o6.rd (i := 0) rfl) Tryz.underlying109 tf_sz9 (.inr ⟨_, _, _, rfl, rfl, rfl, rfl⟩) rfl rfl rfl rfl (by omega) ?_
                refine AtL.load (v := str (l4.getD 0 [])) tf_flat9 (.inr ⟨_, _, _, rfl, rfl, rfl, rfl⟩) rfl rfl (Rd.cell0 (o6.rd (i := 0) rfl) (getD_some [] (by omega)) rfl) ?_
                refine AtL.nes (a := (l4.getD k [])) (b := (l4.getD 0 [])) (.inr ⟨_, _, _, rfl, rfl, rfl, rfl⟩) rfl rfl rfl ?_
                refine AtL.pickF (.inl rfl) rfl rfl rfl ?_
                exact J _ (by exact ⟨(boolIs (by clear J; first | (simp [hs41]; done) | (simp_all; done) | grind)), rfl, rfl, rfl, rfl, trivial⟩)
            · skip
              refine AtL.done ?_
              refine At.cond rfl ?_ ?_
              · intro hc4
                have hc4 : ((((l4.getD k []) = []) ∨ (10 < ((l4.getD k []).length : Int))) ∨ (¬ (Lib.trimS (l4.getD k []) [48, 49, 50, 51, 52, 53, 54, 55, 56, 57] = []))) ∨ (¬ ((l4.getD k []) = (l4.getD 0 []))) := of_decide_eq_true hc4
                refine At.seq ?_
                refine At.region ?_
                refine AtL.assign (.inl rfl) rfl rfl ?_
                refine AtL.assign (.inl rfl) rfl rfl ?_
                refine AtL.done ?_
                refine At.pick (H' := H) [] 2 rfl rfl ?_
                exact At.ret Tryz.func77 rfl rfl (⟨by rw [len_bad hc1 hL (k := k) (by omega) (by rcases hc4 with h4 | h4; exact .inl (size_cond.2 h4); exact .inr h4)]; rfl, rfl⟩)
              · intro hc4
                have hc4 : ¬ (((((l4.getD k []) = []) ∨ (10 < ((l4.getD k []).length : Int))) ∨ (¬ (Lib.trimS (l4.getD k []) [48, 49, 50, 51, 52, 53, 54, 55, 56, 57] = []))) ∨ (¬ ((l4.getD k []) = (l4.getD 0 [])))) := of_decide_eq_false hc4
                refine At.skip ?_
                refine At.inBlock ?_
                refine At.region ?_
                refine AtL.add (z := (k : Int) + 1) (.inl rfl) rfl rfl rfl (w64 (by omega) (by omega)) ?_
                refine AtL.move (.inl rfl) rfl rfl ?_
                refine AtL.done ?_
                refine ihL1 (k + 1) (⟨by omega, fun j hj => (by rcases Nat.lt_or_ge j k with h1 | h1; exact hall j h1; obtain rfl : j = k := (by omega); simp only [not_or, Classical.not_not] at hc4; exact ⟨(by cases hq : (sizeF (l4.getD j [])).isSome with | true => rfl | false => exact absurd (size_cond.1 hq) (by simp only [not_or, Classical.not_not]; exact hc4.1)), hc4.2⟩)⟩) (by omega) _ ?_
                exact ⟨rfl, rfl, rfl, (by first | rfl | exact slLen (by simp []) | exact intEq (by omega) | exact intEq (by simp []) | exact slLen (by simp []; omega)), trivial⟩
      · intro hc3
        have hc3 : ¬ ((k : Int) < (l4.length : Int)) := of_decide_eq_false hc3
        refine At.exit rfl ?_
        refine At.seq ?_
        refine At.region ?_
        refine AtL.move (.inl rfl) rfl rfl ?_
        refine AtL.indexL 0 (o6.rd (i := 0) rfl) Tryz.underlying109 tf_sz9 (.inl rfl) rfl rfl rfl rfl (by omega) ?_
        refine AtL.load (v := str (l4.getD 0 [])) tf_flat9 (.inl rfl) rfl rfl (Rd.cell0 (o6.rd (i := 0) rfl) (getD_some [] (by omega)) rfl) ?_
        obtain ⟨n, hn⟩ : ∃ n, sizeF (l4.getD 0 []) = some n := Option.isSome_iff_exists.1 (hall 0 (by omega)).1
        have hlen0 := len_ok hc1 hL (by omega) (fun j hj => (hall j (by omega)).2) hn
        have hs10 : (l4.getD 0 []).length ≤ 10 := by have h1 := (hall 0 (by omega)).1; by_cases h2 : (l4.getD 0 []).length ≤ 10; exact h2; rw [sizeF, if_neg h2] at h1; cases h1
        have hn10 := size_lt hn
        refine AtL.call tf_body94 (.inl rfl) rfl rfl (atoi_ok (size_atoi hn) (by omega)) ?_
        rintro _ _ ⟨rfl, rfl⟩
        refine AtL.move (.inl rfl) rfl rfl ?_
        refine AtL.extract (.inl rfl) rfl rfl rfl ?_
        refine AtL.extract (.inl rfl) rfl rfl rfl ?_
        refine AtL.assign (.inl rfl) rfl rfl ?_
        refine AtL.assign (.inl rfl) rfl rfl ?_
        refine AtL.done ?_
        refine At.seq ?_
        refine At.seq ?_
        refine At.region ?_
        refine AtL.move (.inl rfl) rfl rfl ?_
        refine AtL.gtr (.inl rfl) rfl rfl rfl ?_
        refine AtL.done ?_
        refine At.cond rfl ?_ ?_
        · intro hc5
          have hc5 : 65535 < (n : Int) := of_decide_eq_true hc5
          refine At.seq ?_
          refine At.region ?_
          refine AtL.assign (.inl rfl) rfl rfl ?_
          refine AtL.assign (.inl rfl) rfl rfl ?_
          refine AtL.done ?_
          refine At.pick (H' := H) [] 2 rfl rfl ?_
          exact At.ret Tryz.func77 rfl rfl (⟨by rw [hlen0, if_pos (by omega)]; rfl, rfl⟩)
        · intro hc5
          have hc5 : ¬ (65535 < (n : Int)) := of_decide_eq_false hc5
          refine At.skip ?_
          refine At.seq ?_
          refine At.region ?_
          refine AtL.move (.inl rfl) rfl rfl ?_
          refine AtL.assign (.inl rfl) rfl rfl ?_
          refine AtL.assign (.inl rfl) rfl rfl ?_
          refine AtL.done ?_
          refine At.pick (H' := H) [] 2 rfl rfl ?_
          exact At.ret Tryz.func77 rfl rfl (⟨by rw [hlen0, if_neg (by omega)]; rfl, rfl⟩)
end Go.Proofs.YtlkdmbpbjhjkfaaGreatDoor
namespace Go.Proofs.YtlkdmbpbjhjkfaaGreatDoor
open Go.RowKit (Below)
set_option linter.unusedVariables false
set_option linter.unusedSimpArgs false
section
variable {X : Pt} {k : List Item} {E : Env} {ds : List Deferred} {H : List Seg}
theorem At.loopD {b : Code} {ι : Type} (Ei : ι → Env) (Hi : ι → List Seg) (Di : ι → List Deferred) (I : ι → Prop) (μ : ι → Nat) (x0 : ι) (h0 : I x0) (hE : Sub (Ei x0) E) (hH : Hi x0 = H) (hD : Di x0 = ds)
    (hr : ∀ x, I x → (∀ x', I x' → μ x' < μ x → ∀ E', Sub (Ei x') E' → At X (.inLoop b :: k) E' (Di x') (Hi x')) → At X (.code b :: .inLoop b :: k) (Ei x) (Di x) (Hi x)) : At X (.code (.loop b) :: k) E ds H := by
  have key : ∀ n x, μ x = n → I x → At X (.code b :: .inLoop b :: k) (Ei x) (Di x) (Hi x) := by
    intro n
    induction n using Nat.strongRecOn with
    | _ n ih =>
      intro x hx hI
      refine hr x hI fun x' hI' hlt E' hE' => ?_
      exact fun a w ha S => .step go_inLoop (ih (μ x') (hx ▸ hlt) x' rfl hI' a w (ha.sub hE') S)
  subst hH
  subst hD
  exact fun a w ha S => .step go_loop (key _ x0 rfl h0 a w (ha.sub hE) S)
theorem At.loopD3 {b : Code} {α β γ : Type} (Ei : α → β → γ → Env) (Hi : α → β → γ → List Seg) (Di : α → β → γ → List Deferred) (I : α → β → γ → Prop) (μ : α → β → γ → Nat) (x : α) (y : β) (z : γ) (h0 : I x y z) (hE : Sub (Ei x y z) E) (hH : Hi x y z = H) (hD : Di x y z = ds)
    (hr : ∀ x y z, I x y z → (∀ x' y' z', I x' y' z' → μ x' y' z' < μ x y z → ∀ E', Sub (Ei x' y' z') E' → At X (.inLoop b :: k) E' (Di x' y' z') (Hi x' y' z')) → At X (.code b :: .inLoop b :: k) (Ei x y z) (Di x y z) (Hi x y z)) : At X (.code (.loop b) :: k) E ds H :=
  At.loopD (ι := α × β × γ) (fun p => Ei p.1 p.2.1 p.2.2) (fun p => Hi p.1 p.2.1 p.2.2) (fun p => Di p.1 p.2.1 p.2.2) (fun p => I p.1 p.2.1 p.2.2) (fun p => μ p.1 p.2.1 p.2.2) (x, y, z) h0 hE hH hD
    fun p hI ih => hr p.1 p.2.1 p.2.2 hI fun x' y' z' => ih (x', y', z')
def colsOf (rs : List Nat) : List Deferred := rs.map fun r => { target := .collected r, args := #[] }
def defsOf (rs : List Nat) : Seg := rs.map fun r => (r, .deferred (some []))
theorem Un.collectAll {m : FrameMode} {rs : List Nat} (hm : (match m with | .run => false | _ => true) = true) : ∀ {H : List Seg} {i : Nat} {pre : Seg}, H[i]? = some (pre ++ defsOf rs) → (∀ s', Un X m E ds (H.set i s')) → Un X m E (colsOf rs ++ ds) H := by
  induction rs with
  | nil =>
    intro H i pre hi h
    have e : H.set i (pre ++ defsOf []) = H := by
      apply List.ext_getElem?
      intro j
      rw [List.getElem?_set]
      split
      · rename_i e
        subst e
        rw [hi]
        simp [(List.getElem?_eq_some_iff.1 hi).1]
      · rfl
    have := h (pre ++ defsOf [])
    rw [e] at this
    exact this
  | cons r rs ih =>
    intro H i pre hi h
    refine Un.collected (i := i) (j := pre.length) (ds0 := []) hm hi (by simp [defsOf]) rfl ?_
    have hlt := (List.getElem?_eq_some_iff.1 hi).1
    refine ih (H := _) (i := i) (pre := pre ++ [(r, .deferred none)]) ?_ (fun s' => ?_)
    · rw [List.getElem?_set_self hlt]
      congr 1
      simp [defsOf]
    · rw [List.set_set]
      exact h s'
theorem Un.collectEnd {m : FrameMode} {rs : List Nat} {H : List Seg} {i : Nat} (hm : (match m with | .run => false | _ => true) = true) (hi : H[i]? = some (defsOf rs)) (h : ∀ s', Un X m E [] (H.set i s')) : Un X m E (colsOf rs) H := by
  have := Un.collectAll (X := X) (E := E) (ds := []) (m := m) (rs := rs) hm (H := H) (i := i) (pre := []) hi h
  rwa [List.append_nil] at this
end
theorem Do.own1 {X : Pt} {E : Env} {H : List Seg} {op : Op} {α : Type} (T : Ty α) {e n : Nat} {l : List α} {cs : Array Value} (hd : Does X E H op (fun v H' => ∃ b, v = .slice (some ⟨b, 0, none⟩) n n ∧ H' = [(b, .cells cs e (0, 0))] :: H)) (hcs : cs = (T.cells l).toArray) (hn : n = l.length) (hle : l.length ≤ 9223372036854775807) :
    Does X E H op (fun v H' => ∃ b s, Own T e (some ⟨b, 0, none⟩) n l s ∧ v = .slice (some ⟨b, 0, none⟩) n n ∧ H' = s :: H) := by
  refine hd.mono ?_
  rintro v H' ⟨b, rfl, rfl⟩
  obtain ⟨s, hs, ho⟩ := own_new T e b l n _ rfl hn hle
  exact ⟨b, s, ho, rfl, by rw [hs, hcs]⟩
section fields
variable {X : Pt} {k : List Item} {E : Env} {ds : List Deferred} {H : List Seg} {ops : Array Oper} {os : List Oper}
  {d : Nat} {ty : TypeId} {pos : String} {after : Array Edge} {g : Option (Nat × Bool)}
end fields
end Go.Proofs.YtlkdmbpbjhjkfaaGreatDoor
