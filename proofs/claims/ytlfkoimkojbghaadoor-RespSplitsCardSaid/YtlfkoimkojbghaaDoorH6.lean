/- Heads: runes of bytes. -/
import Derived.Test.YtlfkoimkojbghaaDoorH5
import Derived.Test.YtlfkoimkojbghaaDoorLgS
namespace Go.Proofs.YtlfkoimkojbghaaDoor
set_option linter.unusedVariables false
set_option linter.unusedSimpArgs false
set_option maxRecDepth 100000

/-- The tables of package utf8, as the program lays them. -/
structure Tabs (w0 : World) (base : Nat) : Prop where
  lt : 2 < base
  lt2 : 3 < base
  first : ∀ c, c < 256 → w0.cell? ⟨2, c, none⟩ = some (.int .u8 (Lib.firstT c))
  lt0 : 0 < base
  max : ∃ m : Int, w0.cell? ⟨0, 0, none⟩ = some (int m)
  acc : ∀ i, i < 16 → w0.cell? ⟨3, 2 * i, none⟩ = some (.int .u8 (Lib.accLo i)) ∧ w0.cell? ⟨3, 2 * i + 1, none⟩ = some (.int .u8 (Lib.accHi i))
theorem Tabs.two {w0 : World} {base : Nat} {H : List Seg} (T : Tabs w0 base) (i : Nat) (hi : i < 16) {lo hi' : Int} (h1 : (Lib.accLo i : Int) = lo) (h2 : (Lib.accHi i : Int) = hi') : ∀ j v, ([.int .u8 lo, .int .u8 hi'] : List Value)[j]? = some v → Cell w0 base H ((eaddr (some ⟨3, 0, none⟩) (i * 2)).add j) v := by
  intro j v hj
  obtain ⟨a1, a2⟩ := T.acc i hi
  have e : eaddr (some ⟨3, 0, none⟩) (i * 2) = ⟨3, 2 * i, none⟩ := by simp [eaddr, addr_add]; omega
  rw [e, addr_add]
  match j, hj with
  | 0, hj => cases hj; rw [← h1]; exact Cell.below T.lt2 a1
  | 1, hj => cases hj; rw [← h2]; exact Cell.below T.lt2 a2
theorem Tabs.one {w0 : World} {base : Nat} {H : List Seg} (T : Tabs w0 base) (u : UInt8) {x : Int} (h : (Lib.firstT u.toNat : Int) = x) : Cell w0 base H (eaddr (some ⟨2, 0, none⟩) (u.toNat * 1)) (.int .u8 x) := by
  rw [← h]
  exact Cell.tab T.lt (T.first _ u.toNat_lt)
/-- What is asked here of a decoded rune and its width. -/
def decOk (l : List UInt8) (r : Int) (n : Nat) : Prop := 1 ≤ n ∧ n ≤ l.length ∧ (∀ i, 1 ≤ i → i < n → 128 ≤ (l.getD i 0).toNat) ∧ (r = 65533 ∨ n = 2 ∨ (n = 3 ∧ 2048 ≤ r ∧ r ≤ 65535) ∨ (n = 4 ∧ 2048 ≤ r ∧ r ≤ 2147483647))

set_option maxHeartbeats 400000 in
theorem slow_241 {w0 : World} {base : Nat} {H : List Seg} {A : Option Addr} {C : Nat} {l : List UInt8} (h : Rd tyB w0 base H A C l) (T : Tabs w0 base) (hl : l ≠ []) (hx : (Lib.firstT (l.getD 0 0).toNat : Int) = 241)  :
    SCalls Tryd.prog 189 [.slice A l.length C] w0 base (H) (fun v H' => ∃ (r : Int) (n : Nat), v = .tuple #[.int .i32 r, int (n : Int)] ∧ decOk l r n ∧ H' = H) := by
  have hpos := List.length_pos_iff.2 hl
  have hcap := h.cap
  have hle := h.le
  have hb0 := u8_le (l.getD 0 0)
  have hb1 := u8_le (l.getD 1 0)
  have hb2 := u8_le (l.getD 2 0)
  have hb3 := u8_le (l.getD 3 0)
  refine SCalls.of_walk (n := 122) Tryd.func189 rfl rfl rfl fun cs => ?_
  refine At.seq ?_
  refine At.region ?_
  refine AtL.assign (.inl rfl) rfl rfl ?_
  refine AtL.assign (.inl rfl) rfl rfl ?_
  refine AtL.done ?_
  refine At.seq ?_
  refine At.region ?_
  refine AtL.move (.inl rfl) rfl rfl ?_
  refine AtL.lenL Tryd.underlying25 (.inl rfl) rfl rfl ?_
  refine AtL.assign (.inl rfl) rfl rfl ?_
  refine AtL.done ?_
  refine At.seq ?_
  refine At.seq ?_
  refine At.region ?_
  refine AtL.move (.inl rfl) rfl rfl ?_
  refine AtL.lss (.inl rfl) rfl rfl rfl ?_
  refine AtL.done ?_
  refine At.condIs false rfl (decide_eq_false (by omega)) ?_
  refine At.skip ?_
  refine At.seq ?_
  refine At.region ?_
  refine AtL.move (.inl rfl) rfl rfl ?_
  refine AtL.indexL 0 h Tryd.underlying25 tf_sz5 (.inl rfl) rfl rfl rfl rfl (by omega) ?_
  refine AtL.load (v := .int .u8 ((l.getD 0 0).toNat : Int)) tf_flat5 (.inl rfl) rfl rfl (Rd.cell0 h (getD_some 0 (by omega)) rfl) ?_
  refine AtL.assign (.inl rfl) rfl rfl ?_
  refine AtL.done ?_
  refine At.seq ?_
  refine At.region ?_
  refine AtL.move (.inl rfl) rfl rfl ?_
  refine AtL.indexArr (a := ⟨2, 0, none⟩) ((l.getD 0 0).toNat) Tryd.underlying144 tf_sz5 (.inl rfl) rfl rfl rfl rfl (by omega) ?_
  refine AtL.load (v := .int .u8 241) tf_flat5 (.inl rfl) rfl rfl (T.one (l.getD 0 0) hx) ?_
  refine AtL.assign (.inl rfl) rfl rfl ?_
  refine AtL.done ?_
  refine At.seq ?_
  refine At.seq ?_
  refine At.region ?_
  refine AtL.move (.inl rfl) rfl rfl ?_
  refine AtL.geq (.inl rfl) rfl rfl rfl ?_
  refine AtL.done ?_
  refine At.condT rfl ?_
  refine At.seq ?_
  refine At.region ?_
  refine AtL.move (.inl rfl) rfl rfl ?_
  refine AtL.convInt (z := 241) Tryd.underlying5 Tryd.underlying21 (.inl rfl) rfl rfl (by decide) ?_
  refine AtL.shl (z := (-2147483648)) (.inl rfl) rfl rfl rfl (by decide) (by decide) ?_
  refine AtL.shr (z := (-1)) (.inl rfl) rfl rfl rfl (by decide) (by decide) ?_
  refine AtL.assign (.inl rfl) rfl rfl ?_
  refine AtL.done ?_
  refine At.seq ?_
  refine At.region ?_
  refine AtL.move (.inl rfl) rfl rfl ?_
  refine AtL.indexL 0 h Tryd.underlying25 tf_sz5 (.inl rfl) rfl rfl rfl rfl (by omega) ?_
  refine AtL.load (v := .int .u8 ((l.getD 0 0).toNat : Int)) tf_flat5 (.inl rfl) rfl rfl (Rd.cell0 h (getD_some 0 (by omega)) rfl) ?_
  have hB1 := u8_le ((l.getD 0 0))
  refine AtL.convInt (z := ((l.getD 0 0).toNat : Int)) Tryd.underlying5 Tryd.underlying21 (.inl rfl) rfl rfl (w32i (by omega) (by omega)) ?_
  refine AtL.move (.inl rfl) rfl rfl ?_
  refine AtL.bandnot (z := 0) (.inl rfl) rfl rfl rfl (andnot_ones _) ?_
  refine AtL.move (.inl rfl) rfl rfl ?_
  refine AtL.band (z := 65533) (.inl rfl) rfl rfl rfl (by decide) ?_
  refine AtL.bor (z := 65533) (.inl rfl) rfl rfl rfl (by decide) ?_
  refine AtL.assign (.inl rfl) rfl rfl ?_
  refine AtL.assign (.inl rfl) rfl rfl ?_
  refine AtL.done ?_
  exact At.ret Tryd.func189 rfl rfl (⟨_, 1, rfl, ⟨by omega, by omega, fun i h1 h2 => by omega, .inl rfl⟩, rfl⟩)

set_option maxHeartbeats 400000 in
theorem slow_2 {w0 : World} {base : Nat} {H : List Seg} {A : Option Addr} {C : Nat} {l : List UInt8} (h : Rd tyB w0 base H A C l) (T : Tabs w0 base) (hl : l ≠ []) (hx : (Lib.firstT (l.getD 0 0).toNat : Int) = 2) (hp : 194 ≤ (l.getD 0 0).toNat ∧ (l.getD 0 0).toNat < 224) :
    SCalls Tryd.prog 189 [.slice A l.length C] w0 base (H) (fun v H' => ∃ (r : Int) (n : Nat), v = .tuple #[.int .i32 r, int (n : Int)] ∧ decOk l r n ∧ H' = H) := by
  have hpos := List.length_pos_iff.2 hl
  have hcap := h.cap
  have hle := h.le
  have hb0 := u8_le (l.getD 0 0)
  have hb1 := u8_le (l.getD 1 0)
  have hb2 := u8_le (l.getD 2 0)
  have hb3 := u8_le (l.getD 3 0)
  refine SCalls.of_walk (n := 122) Tryd.func189 rfl rfl rfl fun cs => ?_
  refine At.seq ?_
  refine At.region ?_
  refine AtL.assign (.inl rfl) rfl rfl ?_
  refine AtL.assign (.inl rfl) rfl rfl ?_
  refine AtL.done ?_
  refine At.seq ?_
  refine At.region ?_
  refine AtL.move (.inl rfl) rfl rfl ?_
  refine AtL.lenL Tryd.underlying25 (.inl rfl) rfl rfl ?_
  refine AtL.assign (.inl rfl) rfl rfl ?_
  refine AtL.done ?_
  refine At.seq ?_
  refine At.seq ?_
  refine At.region ?_
  refine AtL.move (.inl rfl) rfl rfl ?_
  refine AtL.lss (.inl rfl) rfl rfl rfl ?_
  refine AtL.done ?_
  refine At.condIs false rfl (decide_eq_false (by omega)) ?_
  refine At.skip ?_
  refine At.seq ?_
  refine At.region ?_
  refine AtL.move (.inl rfl) rfl rfl ?_
  refine AtL.indexL 0 h Tryd.underlying25 tf_sz5 (.inl rfl) rfl rfl rfl rfl (by omega) ?_
  refine AtL.load (v := .int .u8 ((l.getD 0 0).toNat : Int)) tf_flat5 (.inl rfl) rfl rfl (Rd.cell0 h (getD_some 0 (by omega)) rfl) ?_
  refine AtL.assign (.inl rfl) rfl rfl ?_
  refine AtL.done ?_
  refine At.seq ?_
  refine At.region ?_
  refine AtL.move (.inl rfl) rfl rfl ?_
  refine AtL.indexArr (a := ⟨2, 0, none⟩) ((l.getD 0 0).toNat) Tryd.underlying144 tf_sz5 (.inl rfl) rfl rfl rfl rfl (by omega) ?_
  refine AtL.load (v := .int .u8 2) tf_flat5 (.inl rfl) rfl rfl (T.one (l.getD 0 0) hx) ?_
  refine AtL.assign (.inl rfl) rfl rfl ?_
  refine AtL.done ?_
  refine At.seq ?_
  refine At.seq ?_
  refine At.region ?_
  refine AtL.move (.inl rfl) rfl rfl ?_
  refine AtL.geq (.inl rfl) rfl rfl rfl ?_
  refine AtL.done ?_
  refine At.condF rfl ?_
  refine At.skip ?_
  refine At.seq ?_
  refine At.region ?_
  refine AtL.move (.inl rfl) rfl rfl ?_
  refine AtL.band (z := 2) (.inl rfl) rfl rfl rfl (by decide) ?_
  refine AtL.convInt (z := 2) Tryd.underlying5 Tryd.underlying3 (.inl rfl) rfl rfl (by decide) ?_
  refine AtL.assign (.inl rfl) rfl rfl ?_
  refine AtL.done ?_
  refine At.seq ?_
  refine At.region ?_
  refine AtL.move (.inl rfl) rfl rfl ?_
  refine AtL.shr (z := 0) (.inl rfl) rfl rfl rfl (by decide) (by decide) ?_
  refine AtL.indexArr (a := ⟨3, 0, none⟩) 0 Tryd.underlying213 tf_sz212 (.inl rfl) rfl rfl rfl rfl (by omega) ?_
  refine AtL.loadN (cs := [.int .u8 128, .int .u8 191]) tf_agg212 (.inl rfl) rfl rfl rfl (T.two 0 (by decide) (by decide) (by decide)) ?_
  refine AtL.alloc tf_zero212 (cs := #[.int .u8 0, .int .u8 0]) rfl (.inl rfl) rfl ?_
  intro b1
  refine AtL.store (H' := [(b1, .cells #[.int .u8 128, .int .u8 191] 212 (0, 0))] :: H) 0 0 tf_sz212 (.inl rfl) rfl rfl rfl rfl rfl rfl rfl rfl rfl ?_
  refine AtL.done ?_
  refine At.seq ?_
  refine At.seq ?_
  refine At.region ?_
  refine AtL.move (.inl rfl) rfl rfl ?_
  refine AtL.move (.inl rfl) rfl rfl ?_
  refine AtL.lss (.inl rfl) rfl rfl rfl ?_
  refine AtL.done ?_
  refine At.cond rfl ?_ ?_
  · intro hc3
    have hc3 : (l.length : Int) < 2 := of_decide_eq_true hc3
    refine At.seq ?_
    refine At.region ?_
    refine AtL.assign (.inl rfl) rfl rfl ?_
    refine AtL.assign (.inl rfl) rfl rfl ?_
    refine AtL.done ?_
    refine At.pick (H' := H) [] 1 rfl rfl ?_
    exact At.ret Tryd.func189 rfl rfl (⟨_, 1, rfl, ⟨by omega, by omega, fun i h1 h2 => by omega, .inl rfl⟩, rfl⟩)
  · intro hc3
    have hc3 : ¬ ((l.length : Int) < 2) := of_decide_eq_false hc3
    refine At.skip ?_
    refine At.seq ?_
    refine At.region ?_
    refine AtL.move (.inl rfl) rfl rfl ?_
    refine AtL.indexL 1 (Rd.skip 1 h) Tryd.underlying25 tf_sz5 (.inl rfl) rfl rfl rfl rfl (by omega) ?_
    refine AtL.load (v := .int .u8 ((l.getD 1 0).toNat : Int)) tf_flat5 (.inl rfl) rfl rfl (Rd.cell0 (Rd.skip 1 h) (getD_some 0 (by omega)) rfl) ?_
    refine AtL.assign (.inl rfl) rfl rfl ?_
    refine AtL.done ?_
    refine At.seq ?_
    refine At.seq ?_
    refine At.region ?_
    refine AtL.move (.inl rfl) rfl rfl ?_
    refine AtL.fieldAddrB tf_fo212_0 (.inl rfl) rfl rfl rfl ?_
    refine AtL.load tf_flat5 (.inl rfl) rfl rfl (Cell.own 0 0 rfl rfl rfl) ?_
    refine AtL.lss (.inl rfl) rfl rfl rfl ?_
    refine AtL.move (.inl rfl) rfl rfl ?_
    refine AtL.join 5 (E' := [(60, .bool (decide ((((l.getD 1 0).toNat : Int) < 128) ∨ (191 < ((l.getD 1 0).toNat : Int))))), (0, .slice A l.length C), (5, .int .u8 ((l.getD 0 0).toNat : Int)), (8, .int .i64 2), (10, .int .u8 ((l.getD 1 0).toNat : Int))]) (H' := [(b1, .cells #[.int .u8 128, .int .u8 191] 212 (0, 0))] :: H) (fun J => ?_) ?_
    · refine AtL.split (t := 55) rfl ?_ ?_
      · intro hs55
        have hs55 : ((l.getD 1 0).toNat : Int) < 128 := of_decide_eq_true hs55
        refine AtL.skipped rfl rfl rfl rfl rfl rfl ?_
        refine AtL.skipped rfl rfl rfl rfl rfl rfl ?_
        refine AtL.skipped rfl rfl rfl rfl rfl rfl ?_
        refine AtL.skipped rfl rfl rfl rfl rfl rfl ?_
        refine AtL.pickT (.inl rfl) rfl rfl rfl ?_
        exact J _ (by exact ⟨(boolIs (by clear J; first | (simp [hs55]; done) | (simp_all; done) | grind)), rfl, rfl, rfl, rfl, trivial⟩)
      · intro hs55
        have hs55 : ¬ (((l.getD 1 0).toNat : Int) < 128) := of_decide_eq_false hs55
        refine AtL.fieldAddrB tf_fo212_1 (.inr ⟨_, _, _, rfl, rfl, rfl, rfl⟩) rfl rfl rfl ?_
        refine AtL.load tf_flat5 (.inr ⟨_, _, _, rfl, rfl, rfl, rfl⟩) rfl rfl (Cell.own 0 0 rfl rfl rfl) ?_
        refine AtL.move (.inr ⟨_, _, _, rfl, rfl, rfl, rfl⟩) rfl rfl ?_
        refine AtL.lss (.inr ⟨_, _, _, rfl, rfl, rfl, rfl⟩) rfl rfl rfl ?_
        refine AtL.pickF (.inl rfl) rfl rfl rfl ?_
        exact J _ (by exact ⟨(boolIs (by clear J; first | (simp [hs55]; done) | (simp_all; done) | grind)), rfl, rfl, rfl, rfl, trivial⟩)
    · skip
      refine AtL.done ?_
      refine At.cond rfl ?_ ?_
      · intro hc4
        have hc4 : (((l.getD 1 0).toNat : Int) < 128) ∨ (191 < ((l.getD 1 0).toNat : Int)) := of_decide_eq_true hc4
        refine At.seq ?_
        refine At.region ?_
        refine AtL.assign (.inl rfl) rfl rfl ?_
        refine AtL.assign (.inl rfl) rfl rfl ?_
        refine AtL.done ?_
        refine At.pick (H' := H) [] 1 rfl rfl ?_
        exact At.ret Tryd.func189 rfl rfl (⟨_, 1, rfl, ⟨by omega, by omega, fun i h1 h2 => by omega, .inl rfl⟩, rfl⟩)
      · intro hc4
        have hc4 : ¬ ((((l.getD 1 0).toNat : Int) < 128) ∨ (191 < ((l.getD 1 0).toNat : Int))) := of_decide_eq_false hc4
        refine At.skip ?_
        refine At.seq ?_
        refine At.seq ?_
        refine At.region ?_
        refine AtL.move (.inl rfl) rfl rfl ?_
        refine AtL.leq (.inl rfl) rfl rfl rfl ?_
        refine AtL.done ?_
        refine At.condT rfl ?_
        refine At.seq ?_
        refine At.region ?_
        refine AtL.move (.inl rfl) rfl rfl ?_
        refine AtL.band (z := ((l.getD 0 0).toNat : Int) % 32) (.inl rfl) rfl rfl rfl (and8 5 (by decide) (by omega) (by omega)) ?_
        refine AtL.convInt (z := ((l.getD 0 0).toNat : Int) % 32) Tryd.underlying5 Tryd.underlying21 (.inl rfl) rfl rfl (w32i (by omega) (by omega)) ?_
        refine AtL.shl (z := (((l.getD 0 0).toNat : Int) % 32) * 64) (.inl rfl) rfl rfl rfl (by omega) (shl_eq32 _ _ 6 rfl (by decide) _ (by decide) (by omega) (by omega)) ?_
        refine AtL.move (.inl rfl) rfl rfl ?_
        refine AtL.band (z := ((l.getD 1 0).toNat : Int) % 64) (.inl rfl) rfl rfl rfl (and8 6 (by decide) (by omega) (by omega)) ?_
        refine AtL.convInt (z := ((l.getD 1 0).toNat : Int) % 64) Tryd.underlying5 Tryd.underlying21 (.inl rfl) rfl rfl (w32i (by omega) (by omega)) ?_
        obtain ⟨z2, hz2, hz2a, hz2b, hz2c⟩ := or32 (a := (((l.getD 0 0).toNat : Int) % 32) * 64) (b := ((l.getD 1 0).toNat : Int) % 64) 31 (by decide) (by omega) (by omega) (by omega) (by omega)
        refine AtL.bor (z := z2) (.inl rfl) rfl rfl rfl hz2 ?_
        refine AtL.assign (.inl rfl) rfl rfl ?_
        refine AtL.assign (.inl rfl) rfl rfl ?_
        refine AtL.done ?_
        refine At.pick (H' := H) [] 1 rfl rfl ?_
        exact At.ret Tryd.func189 rfl rfl (⟨_, 2, rfl, ⟨by omega, by omega, fun i h1 h2 => (by obtain rfl : i = 1 := (by omega); omega), .inr (.inl rfl)⟩, rfl⟩)

set_option maxHeartbeats 400000 in
theorem slow_19 {w0 : World} {base : Nat} {H : List Seg} {A : Option Addr} {C : Nat} {l : List UInt8} (h : Rd tyB w0 base H A C l) (T : Tabs w0 base) (hl : l ≠ []) (hx : (Lib.firstT (l.getD 0 0).toNat : Int) = 19) (hp : (l.getD 0 0).toNat = 224) :
    SCalls Tryd.prog 189 [.slice A l.length C] w0 base (H) (fun v H' => ∃ (r : Int) (n : Nat), v = .tuple #[.int .i32 r, int (n : Int)] ∧ decOk l r n ∧ H' = H) := by
  have hpos := List.length_pos_iff.2 hl
  have hcap := h.cap
  have hle := h.le
  have hb0 := u8_le (l.getD 0 0)
  have hb1 := u8_le (l.getD 1 0)
  have hb2 := u8_le (l.getD 2 0)
  have hb3 := u8_le (l.getD 3 0)
  refine SCalls.of_walk (n := 122) Tryd.func189 rfl rfl rfl fun cs => ?_
  refine At.seq ?_
  refine At.region ?_
  refine AtL.assign (.inl rfl) rfl rfl ?_
  refine AtL.assign (.inl rfl) rfl rfl ?_
  refine AtL.done ?_
  refine At.seq ?_
  refine At.region ?_
  refine AtL.move (.inl rfl) rfl rfl ?_
  refine AtL.lenL Tryd.underlying25 (.inl rfl) rfl rfl ?_
  refine AtL.assign (.inl rfl) rfl rfl ?_
  refine AtL.done ?_
  refine At.seq ?_
  refine At.seq ?_
  refine At.region ?_
  refine AtL.move (.inl rfl) rfl rfl ?_
  refine AtL.lss (.inl rfl) rfl rfl rfl ?_
  refine AtL.done ?_
  refine At.condIs false rfl (decide_eq_false (by omega)) ?_
  refine At.skip ?_
  refine At.seq ?_
  refine At.region ?_
  refine AtL.move (.inl rfl) rfl rfl ?_
  refine AtL.indexL 0 h Tryd.underlying25 tf_sz5 (.inl rfl) rfl rfl rfl rfl (by omega) ?_
  refine AtL.load (v := .int .u8 ((l.getD 0 0).toNat : Int)) tf_flat5 (.inl rfl) rfl rfl (Rd.cell0 h (getD_some 0 (by omega)) rfl) ?_
  refine AtL.assign (.inl rfl) rfl rfl ?_
  refine AtL.done ?_
  refine At.seq ?_
  refine At.region ?_
  refine AtL.move (.inl rfl) rfl rfl ?_
  refine AtL.indexArr (a := ⟨2, 0, none⟩) ((l.getD 0 0).toNat) Tryd.underlying144 tf_sz5 (.inl rfl) rfl rfl rfl rfl (by omega) ?_
  refine AtL.load (v := .int .u8 19) tf_flat5 (.inl rfl) rfl rfl (T.one (l.getD 0 0) hx) ?_
  refine AtL.assign (.inl rfl) rfl rfl ?_
  refine AtL.done ?_
  refine At.seq ?_
  refine At.seq ?_
  refine At.region ?_
  refine AtL.move (.inl rfl) rfl rfl ?_
  refine AtL.geq (.inl rfl) rfl rfl rfl ?_
  refine AtL.done ?_
  refine At.condF rfl ?_
  refine At.skip ?_
  refine At.seq ?_
  refine At.region ?_
  refine AtL.move (.inl rfl) rfl rfl ?_
  refine AtL.band (z := 3) (.inl rfl) rfl rfl rfl (by decide) ?_
  refine AtL.convInt (z := 3) Tryd.underlying5 Tryd.underlying3 (.inl rfl) rfl rfl (by decide) ?_
  refine AtL.assign (.inl rfl) rfl rfl ?_
  refine AtL.done ?_
  refine At.seq ?_
  refine At.region ?_
  refine AtL.move (.inl rfl) rfl rfl ?_
  refine AtL.shr (z := 1) (.inl rfl) rfl rfl rfl (by decide) (by decide) ?_
  refine AtL.indexArr (a := ⟨3, 0, none⟩) 1 Tryd.underlying213 tf_sz212 (.inl rfl) rfl rfl rfl rfl (by omega) ?_
  refine AtL.loadN (cs := [.int .u8 160, .int .u8 191]) tf_agg212 (.inl rfl) rfl rfl rfl (T.two 1 (by decide) (by decide) (by decide)) ?_
  refine AtL.alloc tf_zero212 (cs := #[.int .u8 0, .int .u8 0]) rfl (.inl rfl) rfl ?_
  intro b1
  refine AtL.store (H' := [(b1, .cells #[.int .u8 160, .int .u8 191] 212 (0, 0))] :: H) 0 0 tf_sz212 (.inl rfl) rfl rfl rfl rfl rfl rfl rfl rfl rfl ?_
  refine AtL.done ?_
  refine At.seq ?_
  refine At.seq ?_
  refine At.region ?_
  refine AtL.move (.inl rfl) rfl rfl ?_
  refine AtL.move (.inl rfl) rfl rfl ?_
  refine AtL.lss (.inl rfl) rfl rfl rfl ?_
  refine AtL.done ?_
  refine At.cond rfl ?_ ?_
  · intro hc3
    have hc3 : (l.length : Int) < 3 := of_decide_eq_true hc3
    refine At.seq ?_
    refine At.region ?_
    refine AtL.assign (.inl rfl) rfl rfl ?_
    refine AtL.assign (.inl rfl) rfl rfl ?_
    refine AtL.done ?_
    refine At.pick (H' := H) [] 1 rfl rfl ?_
    exact At.ret Tryd.func189 rfl rfl (⟨_, 1, rfl, ⟨by omega, by omega, fun i h1 h2 => by omega, .inl rfl⟩, rfl⟩)
  · intro hc3
    have hc3 : ¬ ((l.length : Int) < 3) := of_decide_eq_false hc3
    refine At.skip ?_
    refine At.seq ?_
    refine At.region ?_
    refine AtL.move (.inl rfl) rfl rfl ?_
    refine AtL.indexL 1 (Rd.skip 1 h) Tryd.underlying25 tf_sz5 (.inl rfl) rfl rfl rfl rfl (by omega) ?_
    refine AtL.load (v := .int .u8 ((l.getD 1 0).toNat : Int)) tf_flat5 (.inl rfl) rfl rfl (Rd.cell0 (Rd.skip 1 h) (getD_some 0 (by omega)) rfl) ?_
    refine AtL.assign (.inl rfl) rfl rfl ?_
    refine AtL.done ?_
    refine At.seq ?_
    refine At.seq ?_
    refine At.region ?_
    refine AtL.move (.inl rfl) rfl rfl ?_
    refine AtL.fieldAddrB tf_fo212_0 (.inl rfl) rfl rfl rfl ?_
    refine AtL.load tf_flat5 (.inl rfl) rfl rfl (Cell.own 0 0 rfl rfl rfl) ?_
    refine AtL.lss (.inl rfl) rfl rfl rfl ?_
    refine AtL.move (.inl rfl) rfl rfl ?_
    refine AtL.join 5 (E' := [(60, .bool (decide ((((l.getD 1 0).toNat : Int) < 160) ∨ (191 < ((l.getD 1 0).toNat : Int))))), (0, .slice A l.length C), (5, .int .u8 ((l.getD 0 0).toNat : Int)), (8, .int .i64 3), (10, .int .u8 ((l.getD 1 0).toNat : Int))]) (H' := [(b1, .cells #[.int .u8 160, .int .u8 191] 212 (0, 0))] :: H) (fun J => ?_) ?_
    · refine AtL.split (t := 55) rfl ?_ ?_
      · intro hs55
        have hs55 : ((l.getD 1 0).toNat : Int) < 160 := of_decide_eq_true hs55
        refine AtL.skipped rfl rfl rfl rfl rfl rfl ?_
        refine AtL.skipped rfl rfl rfl rfl rfl rfl ?_
        refine AtL.skipped rfl rfl rfl rfl rfl rfl ?_
        refine AtL.skipped rfl rfl rfl rfl rfl rfl ?_
        refine AtL.pickT (.inl rfl) rfl rfl rfl ?_
        exact J _ (by exact ⟨(boolIs (by clear J; first | (simp [hs55]; done) | (simp_all; done) | grind)), rfl, rfl, rfl, rfl, trivial⟩)
      · intro hs55
        have hs55 : ¬ (((l.getD 1 0).toNat : Int) < 160) := of_decide_eq_false hs55
        refine AtL.fieldAddrB tf_fo212_1 (.inr ⟨_, _, _, rfl, rfl, rfl, rfl⟩) rfl rfl rfl ?_
        refine AtL.load tf_flat5 (.inr ⟨_, _, _, rfl, rfl, rfl, rfl⟩) rfl rfl (Cell.own 0 0 rfl rfl rfl) ?_
        refine AtL.move (.inr ⟨_, _, _, rfl, rfl, rfl, rfl⟩) rfl rfl ?_
        refine AtL.lss (.inr ⟨_, _, _, rfl, rfl, rfl, rfl⟩) rfl rfl rfl ?_
        refine AtL.pickF (.inl rfl) rfl rfl rfl ?_
        exact J _ (by exact ⟨(boolIs (by clear J; first | (simp [hs55]; done) | (simp_all; done) | grind)), rfl, rfl, rfl, rfl, trivial⟩)
    · skip
      refine AtL.done ?_
      refine At.cond rfl ?_ ?_
      · intro hc4
        have hc4 : (((l.getD 1 0).toNat : Int) < 160) ∨ (191 < ((l.getD 1 0).toNat : Int)) := of_decide_eq_true hc4
        refine At.seq ?_
        refine At.region ?_
        refine AtL.assign (.inl rfl) rfl rfl ?_
        refine AtL.assign (.inl rfl) rfl rfl ?_
        refine AtL.done ?_
        refine At.pick (H' := H) [] 1 rfl rfl ?_
        exact At.ret Tryd.func189 rfl rfl (⟨_, 1, rfl, ⟨by omega, by omega, fun i h1 h2 => by omega, .inl rfl⟩, rfl⟩)
      · intro hc4
        have hc4 : ¬ ((((l.getD 1 0).toNat : Int) < 160) ∨ (191 < ((l.getD 1 0).toNat : Int))) := of_decide_eq_false hc4
        refine At.skip ?_
        refine At.seq ?_
        refine At.seq ?_
        refine At.region ?_
        refine AtL.move (.inl rfl) rfl rfl ?_
        refine AtL.leq (.inl rfl) rfl rfl rfl ?_
        refine AtL.done ?_
        refine At.condF rfl ?_
        refine At.skip ?_
        refine At.seq ?_
        refine At.region ?_
        refine AtL.move (.inl rfl) rfl rfl ?_
        refine AtL.indexL 2 (Rd.skip 1 h) Tryd.underlying25 tf_sz5 (.inl rfl) rfl rfl rfl rfl (by omega) ?_
        refine AtL.load (v := .int .u8 ((l.getD 2 0).toNat : Int)) tf_flat5 (.inl rfl) rfl rfl (Rd.cell0 (Rd.skip 1 h) (getD_some 0 (by omega)) rfl) ?_
        refine AtL.assign (.inl rfl) rfl rfl ?_
        refine AtL.done ?_
        refine At.seq ?_
        refine At.seq ?_
        refine At.region ?_
        refine AtL.move (.inl rfl) rfl rfl ?_
        refine AtL.lss (.inl rfl) rfl rfl rfl ?_
        refine AtL.move (.inl rfl) rfl rfl ?_
        refine AtL.join 3 (E' := [(79, .bool (decide ((((l.getD 2 0).toNat : Int) < 128) ∨ (191 < ((l.getD 2 0).toNat : Int))))), (0, .slice A l.length C), (5, .int .u8 ((l.getD 0 0).toNat : Int)), (8, .int .i64 3), (10, .int .u8 ((l.getD 1 0).toNat : Int)), (11, .int .u8 ((l.getD 2 0).toNat : Int))]) (H' := [(b1, .cells #[.int .u8 160, .int .u8 191] 212 (0, 0))] :: H) (fun J => ?_) ?_
        · refine AtL.split (t := 76) rfl ?_ ?_
          · intro hs76
            have hs76 : ((l.getD 2 0).toNat : Int) < 128 := of_decide_eq_true hs76
            refine AtL.skipped rfl rfl rfl rfl rfl rfl ?_
            refine AtL.skipped rfl rfl rfl rfl rfl rfl ?_
            refine AtL.pickT (.inl rfl) rfl rfl rfl ?_
            exact J _ (by exact ⟨(boolIs (by clear J; first | (simp [hs76]; done) | (simp_all; done) | grind)), rfl, rfl, rfl, rfl, rfl, trivial⟩)
          · intro hs76
            have hs76 : ¬ (((l.getD 2 0).toNat : Int) < 128) := of_decide_eq_false hs76
            refine AtL.move (.inr ⟨_, _, _, rfl, rfl, rfl, rfl⟩) rfl rfl ?_
            refine AtL.lss (.inr ⟨_, _, _, rfl, rfl, rfl, rfl⟩) rfl rfl rfl ?_
            refine AtL.pickF (.inl rfl) rfl rfl rfl ?_
            exact J _ (by exact ⟨(boolIs (by clear J; first | (simp [hs76]; done) | (simp_all; done) | grind)), rfl, rfl, rfl, rfl, rfl, trivial⟩)
        · skip
          refine AtL.done ?_
          refine At.cond rfl ?_ ?_
          · intro hc6
            have hc6 : (((l.getD 2 0).toNat : Int) < 128) ∨ (191 < ((l.getD 2 0).toNat : Int)) := of_decide_eq_true hc6
            refine At.seq ?_
            refine At.region ?_
            refine AtL.assign (.inl rfl) rfl rfl ?_
            refine AtL.assign (.inl rfl) rfl rfl ?_
            refine AtL.done ?_
            refine At.pick (H' := H) [] 1 rfl rfl ?_
            exact At.ret Tryd.func189 rfl rfl (⟨_, 1, rfl, ⟨by omega, by omega, fun i h1 h2 => by omega, .inl rfl⟩, rfl⟩)
          · intro hc6
            have hc6 : ¬ ((((l.getD 2 0).toNat : Int) < 128) ∨ (191 < ((l.getD 2 0).toNat : Int))) := of_decide_eq_false hc6
            refine At.skip ?_
            refine At.seq ?_
            refine At.seq ?_
            refine At.region ?_
            refine AtL.move (.inl rfl) rfl rfl ?_
            refine AtL.leq (.inl rfl) rfl rfl rfl ?_
            refine AtL.done ?_
            refine At.condT rfl ?_
            refine At.seq ?_
            refine At.region ?_
            refine AtL.move (.inl rfl) rfl rfl ?_
            refine AtL.band (z := ((l.getD 0 0).toNat : Int) % 16) (.inl rfl) rfl rfl rfl (and8 4 (by decide) (by omega) (by omega)) ?_
            refine AtL.convInt (z := ((l.getD 0 0).toNat : Int) % 16) Tryd.underlying5 Tryd.underlying21 (.inl rfl) rfl rfl (w32i (by omega) (by omega)) ?_
            refine AtL.shl (z := (((l.getD 0 0).toNat : Int) % 16) * 4096) (.inl rfl) rfl rfl rfl (by omega) (shl_eq32 _ _ 12 rfl (by decide) _ (by decide) (by omega) (by omega)) ?_
            refine AtL.move (.inl rfl) rfl rfl ?_
            refine AtL.band (z := ((l.getD 1 0).toNat : Int) % 64) (.inl rfl) rfl rfl rfl (and8 6 (by decide) (by omega) (by omega)) ?_
            refine AtL.convInt (z := ((l.getD 1 0).toNat : Int) % 64) Tryd.underlying5 Tryd.underlying21 (.inl rfl) rfl rfl (w32i (by omega) (by omega)) ?_
            refine AtL.shl (z := (((l.getD 1 0).toNat : Int) % 64) * 64) (.inl rfl) rfl rfl rfl (by omega) (shl_eq32 _ _ 6 rfl (by decide) _ (by decide) (by omega) (by omega)) ?_
            obtain ⟨z2, hz2, hz2a, hz2b, hz2c⟩ := or32 (a := (((l.getD 0 0).toNat : Int) % 16) * 4096) (b := (((l.getD 1 0).toNat : Int) % 64) * 64) 16 (by decide) (by omega) (by omega) (by omega) (by omega)
            refine AtL.bor (z := z2) (.inl rfl) rfl rfl rfl hz2 ?_
            refine AtL.move (.inl rfl) rfl rfl ?_
            refine AtL.band (z := ((l.getD 2 0).toNat : Int) % 64) (.inl rfl) rfl rfl rfl (and8 6 (by decide) (by omega) (by omega)) ?_
            refine AtL.convInt (z := ((l.getD 2 0).toNat : Int) % 64) Tryd.underlying5 Tryd.underlying21 (.inl rfl) rfl rfl (w32i (by omega) (by omega)) ?_
            obtain ⟨z3, hz3, hz3a, hz3b, hz3c⟩ := or32 (a := z2) (b := ((l.getD 2 0).toNat : Int) % 64) 16 (by decide) (by omega) (by omega) (by omega) (by omega)
            refine AtL.bor (z := z3) (.inl rfl) rfl rfl rfl hz3 ?_
            refine AtL.assign (.inl rfl) rfl rfl ?_
            refine AtL.assign (.inl rfl) rfl rfl ?_
            refine AtL.done ?_
            refine At.pick (H' := H) [] 1 rfl rfl ?_
            exact At.ret Tryd.func189 rfl rfl (⟨_, 3, rfl, ⟨by omega, by omega, fun i h1 h2 => (by rcases (show i = 1 ∨ i = 2 by omega) with rfl | rfl <;> omega), .inr (.inr (.inl ⟨rfl, by omega, by omega⟩))⟩, rfl⟩)

set_option maxHeartbeats 400000 in
theorem slow_3 {w0 : World} {base : Nat} {H : List Seg} {A : Option Addr} {C : Nat} {l : List UInt8} (h : Rd tyB w0 base H A C l) (T : Tabs w0 base) (hl : l ≠ []) (hx : (Lib.firstT (l.getD 0 0).toNat : Int) = 3) (hp : (225 ≤ (l.getD 0 0).toNat ∧ (l.getD 0 0).toNat < 240)) :
    SCalls Tryd.prog 189 [.slice A l.length C] w0 base (H) (fun v H' => ∃ (r : Int) (n : Nat), v = .tuple #[.int .i32 r, int (n : Int)] ∧ decOk l r n ∧ H' = H) := by
  have hpos := List.length_pos_iff.2 hl
  have hcap := h.cap
  have hle := h.le
  have hb0 := u8_le (l.getD 0 0)
  have hb1 := u8_le (l.getD 1 0)
  have hb2 := u8_le (l.getD 2 0)
  have hb3 := u8_le (l.getD 3 0)
  refine SCalls.of_walk (n := 122) Tryd.func189 rfl rfl rfl fun cs => ?_
  refine At.seq ?_
  refine At.region ?_
  refine AtL.assign (.inl rfl) rfl rfl ?_
  refine AtL.assign (.inl rfl) rfl rfl ?_
  refine AtL.done ?_
  refine At.seq ?_
  refine At.region ?_
  refine AtL.move (.inl rfl) rfl rfl ?_
  refine AtL.lenL Tryd.underlying25 (.inl rfl) rfl rfl ?_
  refine AtL.assign (.inl rfl) rfl rfl ?_
  refine AtL.done ?_
  refine At.seq ?_
  refine At.seq ?_
  refine At.region ?_
  refine AtL.move (.inl rfl) rfl rfl ?_
  refine AtL.lss (.inl rfl) rfl rfl rfl ?_
  refine AtL.done ?_
  refine At.condIs false rfl (decide_eq_false (by omega)) ?_
  refine At.skip ?_
  refine At.seq ?_
  refine At.region ?_
  refine AtL.move (.inl rfl) rfl rfl ?_
  refine AtL.indexL 0 h Tryd.underlying25 tf_sz5 (.inl rfl) rfl rfl rfl rfl (by omega) ?_
  refine AtL.load (v := .int .u8 ((l.getD 0 0).toNat : Int)) tf_flat5 (.inl rfl) rfl rfl (Rd.cell0 h (getD_some 0 (by omega)) rfl) ?_
  refine AtL.assign (.inl rfl) rfl rfl ?_
  refine AtL.done ?_
  refine At.seq ?_
  refine At.region ?_
  refine AtL.move (.inl rfl) rfl rfl ?_
  refine AtL.indexArr (a := ⟨2, 0, none⟩) ((l.getD 0 0).toNat) Tryd.underlying144 tf_sz5 (.inl rfl) rfl rfl rfl rfl (by omega) ?_
  refine AtL.load (v := .int .u8 3) tf_flat5 (.inl rfl) rfl rfl (T.one (l.getD 0 0) hx) ?_
  refine AtL.assign (.inl rfl) rfl rfl ?_
  refine AtL.done ?_
  refine At.seq ?_
  refine At.seq ?_
  refine At.region ?_
  refine AtL.move (.inl rfl) rfl rfl ?_
  refine AtL.geq (.inl rfl) rfl rfl rfl ?_
  refine AtL.done ?_
  refine At.condF rfl ?_
  refine At.skip ?_
  refine At.seq ?_
  refine At.region ?_
  refine AtL.move (.inl rfl) rfl rfl ?_
  refine AtL.band (z := 3) (.inl rfl) rfl rfl rfl (by decide) ?_
  refine AtL.convInt (z := 3) Tryd.underlying5 Tryd.underlying3 (.inl rfl) rfl rfl (by decide) ?_
  refine AtL.assign (.inl rfl) rfl rfl ?_
  refine AtL.done ?_
  refine At.seq ?_
  refine At.region ?_
  refine AtL.move (.inl rfl) rfl rfl ?_
  refine AtL.shr (z := 0) (.inl rfl) rfl rfl rfl (by decide) (by decide) ?_
  refine AtL.indexArr (a := ⟨3, 0, none⟩) 0 Tryd.underlying213 tf_sz212 (.inl rfl) rfl rfl rfl rfl (by omega) ?_
  refine AtL.loadN (cs := [.int .u8 128, .int .u8 191]) tf_agg212 (.inl rfl) rfl rfl rfl (T.two 0 (by decide) (by decide) (by decide)) ?_
  refine AtL.alloc tf_zero212 (cs := #[.int .u8 0, .int .u8 0]) rfl (.inl rfl) rfl ?_
  intro b1
  refine AtL.store (H' := [(b1, .cells #[.int .u8 128, .int .u8 191] 212 (0, 0))] :: H) 0 0 tf_sz212 (.inl rfl) rfl rfl rfl rfl rfl rfl rfl rfl rfl ?_
  refine AtL.done ?_
  refine At.seq ?_
  refine At.seq ?_
  refine At.region ?_
  refine AtL.move (.inl rfl) rfl rfl ?_
  refine AtL.move (.inl rfl) rfl rfl ?_
  refine AtL.lss (.inl rfl) rfl rfl rfl ?_
  refine AtL.done ?_
  refine At.cond rfl ?_ ?_
  · intro hc3
    have hc3 : (l.length : Int) < 3 := of_decide_eq_true hc3
    refine At.seq ?_
    refine At.region ?_
    refine AtL.assign (.inl rfl) rfl rfl ?_
    refine AtL.assign (.inl rfl) rfl rfl ?_
    refine AtL.done ?_
    refine At.pick (H' := H) [] 1 rfl rfl ?_
    exact At.ret Tryd.func189 rfl rfl (⟨_, 1, rfl, ⟨by omega, by omega, fun i h1 h2 => by omega, .inl rfl⟩, rfl⟩)
  · intro hc3
    have hc3 : ¬ ((l.length : Int) < 3) := of_decide_eq_false hc3
    refine At.skip ?_
    refine At.seq ?_
    refine At.region ?_
    refine AtL.move (.inl rfl) rfl rfl ?_
    refine AtL.indexL 1 (Rd.skip 1 h) Tryd.underlying25 tf_sz5 (.inl rfl) rfl rfl rfl rfl (by omega) ?_
    refine AtL.load (v := .int .u8 ((l.getD 1 0).toNat : Int)) tf_flat5 (.inl rfl) rfl rfl (Rd.cell0 (Rd.skip 1 h) (getD_some 0 (by omega)) rfl) ?_
    refine AtL.assign (.inl rfl) rfl rfl ?_
    refine AtL.done ?_
    refine At.seq ?_
    refine At.seq ?_
    refine At.region ?_
    refine AtL.move (.inl rfl) rfl rfl ?_
    refine AtL.fieldAddrB tf_fo212_0 (.inl rfl) rfl rfl rfl ?_
    refine AtL.load tf_flat5 (.inl rfl) rfl rfl (Cell.own 0 0 rfl rfl rfl) ?_
    refine AtL.lss (.inl rfl) rfl rfl rfl ?_
    refine AtL.move (.inl rfl) rfl rfl ?_
    refine AtL.join 5 (E' := [(60, .bool (decide ((((l.getD 1 0).toNat : Int) < 128) ∨ (191 < ((l.getD 1 0).toNat : Int))))), (0, .slice A l.length C), (5, .int .u8 ((l.getD 0 0).toNat : Int)), (8, .int .i64 3), (10, .int .u8 ((l.getD 1 0).toNat : Int))]) (H' := [(b1, .cells #[.int .u8 128, .int .u8 191] 212 (0, 0))] :: H) (fun J => ?_) ?_
    · refine AtL.split (t := 55) rfl ?_ ?_
      · intro hs55
        have hs55 : ((l.getD 1 0).toNat : Int) < 128 := of_decide_eq_true hs55
        refine AtL.skipped rfl rfl rfl rfl rfl rfl ?_
        refine AtL.skipped rfl rfl rfl rfl rfl rfl ?_
        refine AtL.skipped rfl rfl rfl rfl rfl rfl ?_
        refine AtL.skipped rfl rfl rfl rfl rfl rfl ?_
        refine AtL.pickT (.inl rfl) rfl rfl rfl ?_
        exact J _ (by exact ⟨(boolIs (by clear J; first | (simp [hs55]; done) | (simp_all; done) | grind)), rfl, rfl, rfl, rfl, trivial⟩)
      · intro hs55
        have hs55 : ¬ (((l.getD 1 0).toNat : Int) < 128) := of_decide_eq_false hs55
        refine AtL.fieldAddrB tf_fo212_1 (.inr ⟨_, _, _, rfl, rfl, rfl, rfl⟩) rfl rfl rfl ?_
        refine AtL.load tf_flat5 (.inr ⟨_, _, _, rfl, rfl, rfl, rfl⟩) rfl rfl (Cell.own 0 0 rfl rfl rfl) ?_
        refine AtL.move (.inr ⟨_, _, _, rfl, rfl, rfl, rfl⟩) rfl rfl ?_
        refine AtL.lss (.inr ⟨_, _, _, rfl, rfl, rfl, rfl⟩) rfl rfl rfl ?_
        refine AtL.pickF (.inl rfl) rfl rfl rfl ?_
        exact J _ (by exact ⟨(boolIs (by clear J; first | (simp [hs55]; done) | (simp_all; done) | grind)), rfl, rfl, rfl, rfl, trivial⟩)
    · skip
      refine AtL.done ?_
      refine At.cond rfl ?_ ?_
      · intro hc4
        have hc4 : (((l.getD 1 0).toNat : Int) < 128) ∨ (191 < ((l.getD 1 0).toNat : Int)) := of_decide_eq_true hc4
        refine At.seq ?_
        refine At.region ?_
        refine AtL.assign (.inl rfl) rfl rfl ?_
        refine AtL.assign (.inl rfl) rfl rfl ?_
        refine AtL.done ?_
        refine At.pick (H' := H) [] 1 rfl rfl ?_
        exact At.ret Tryd.func189 rfl rfl (⟨_, 1, rfl, ⟨by omega, by omega, fun i h1 h2 => by omega, .inl rfl⟩, rfl⟩)
      · intro hc4
        have hc4 : ¬ ((((l.getD 1 0).toNat : Int) < 128) ∨ (191 < ((l.getD 1 0).toNat : Int))) := of_decide_eq_false hc4
        refine At.skip ?_
        refine At.seq ?_
        refine At.seq ?_
        refine At.region ?_
        refine AtL.move (.inl rfl) rfl rfl ?_
        refine AtL.leq (.inl rfl) rfl rfl rfl ?_
        refine AtL.done ?_
        refine At.condF rfl ?_
        refine At.skip ?_
        refine At.seq ?_
        refine At.region ?_
        refine AtL.move (.inl rfl) rfl rfl ?_
        refine AtL.indexL 2 (Rd.skip 1 h) Tryd.underlying25 tf_sz5 (.inl rfl) rfl rfl rfl rfl (by omega) ?_
        refine AtL.load (v := .int .u8 ((l.getD 2 0).toNat : Int)) tf_flat5 (.inl rfl) rfl rfl (Rd.cell0 (Rd.skip 1 h) (getD_some 0 (by omega)) rfl) ?_
        refine AtL.assign (.inl rfl) rfl rfl ?_
        refine AtL.done ?_
        refine At.seq ?_
        refine At.seq ?_
        refine At.region ?_
        refine AtL.move (.inl rfl) rfl rfl ?_
        refine AtL.lss (.inl rfl) rfl rfl rfl ?_
        refine AtL.move (.inl rfl) rfl rfl ?_
        refine AtL.join 3 (E' := [(79, .bool (decide ((((l.getD 2 0).toNat : Int) < 128) ∨ (191 < ((l.getD 2 0).toNat : Int))))), (0, .slice A l.length C), (5, .int .u8 ((l.getD 0 0).toNat : Int)), (8, .int .i64 3), (10, .int .u8 ((l.getD 1 0).toNat : Int)), (11, .int .u8 ((l.getD 2 0).toNat : Int))]) (H' := [(b1, .cells #[.int .u8 128, .int .u8 191] 212 (0, 0))] :: H) (fun J => ?_) ?_
        · refine AtL.split (t := 76) rfl ?_ ?_
          · intro hs76
            have hs76 : ((l.getD 2 0).toNat : Int) < 128 := of_decide_eq_true hs76
            refine AtL.skipped rfl rfl rfl rfl rfl rfl ?_
            refine AtL.skipped rfl rfl rfl rfl rfl rfl ?_
            refine AtL.pickT (.inl rfl) rfl rfl rfl ?_
            exact J _ (by exact ⟨(boolIs (by clear J; first | (simp [hs76]; done) | (simp_all; done) | grind)), rfl, rfl, rfl, rfl, rfl, trivial⟩)
          · intro hs76
            have hs76 : ¬ (((l.getD 2 0).toNat : Int) < 128) := of_decide_eq_false hs76
            refine AtL.move (.inr ⟨_, _, _, rfl, rfl, rfl, rfl⟩) rfl rfl ?_
            refine AtL.lss (.inr ⟨_, _, _, rfl, rfl, rfl, rfl⟩) rfl rfl rfl ?_
            refine AtL.pickF (.inl rfl) rfl rfl rfl ?_
            exact J _ (by exact ⟨(boolIs (by clear J; first | (simp [hs76]; done) | (simp_all; done) | grind)), rfl, rfl, rfl, rfl, rfl, trivial⟩)
        · skip
          refine AtL.done ?_
          refine At.cond rfl ?_ ?_
          · intro hc6
            have hc6 : (((l.getD 2 0).toNat : Int) < 128) ∨ (191 < ((l.getD 2 0).toNat : Int)) := of_decide_eq_true hc6
            refine At.seq ?_
            refine At.region ?_
            refine AtL.assign (.inl rfl) rfl rfl ?_
            refine AtL.assign (.inl rfl) rfl rfl ?_
            refine AtL.done ?_
            refine At.pick (H' := H) [] 1 rfl rfl ?_
            exact At.ret Tryd.func189 rfl rfl (⟨_, 1, rfl, ⟨by omega, by omega, fun i h1 h2 => by omega, .inl rfl⟩, rfl⟩)
          · intro hc6
            have hc6 : ¬ ((((l.getD 2 0).toNat : Int) < 128) ∨ (191 < ((l.getD 2 0).toNat : Int))) := of_decide_eq_false hc6
            refine At.skip ?_
            refine At.seq ?_
            refine At.seq ?_
            refine At.region ?_
            refine AtL.move (.inl rfl) rfl rfl ?_
            refine AtL.leq (.inl rfl) rfl rfl rfl ?_
            refine AtL.done ?_
            refine At.condT rfl ?_
            refine At.seq ?_
            refine At.region ?_
            refine AtL.move (.inl rfl) rfl rfl ?_
            refine AtL.band (z := ((l.getD 0 0).toNat : Int) % 16) (.inl rfl) rfl rfl rfl (and8 4 (by decide) (by omega) (by omega)) ?_
            refine AtL.convInt (z := ((l.getD 0 0).toNat : Int) % 16) Tryd.underlying5 Tryd.underlying21 (.inl rfl) rfl rfl (w32i (by omega) (by omega)) ?_
            refine AtL.shl (z := (((l.getD 0 0).toNat : Int) % 16) * 4096) (.inl rfl) rfl rfl rfl (by omega) (shl_eq32 _ _ 12 rfl (by decide) _ (by decide) (by omega) (by omega)) ?_
            refine AtL.move (.inl rfl) rfl rfl ?_
            refine AtL.band (z := ((l.getD 1 0).toNat : Int) % 64) (.inl rfl) rfl rfl rfl (and8 6 (by decide) (by omega) (by omega)) ?_
            refine AtL.convInt (z := ((l.getD 1 0).toNat : Int) % 64) Tryd.underlying5 Tryd.underlying21 (.inl rfl) rfl rfl (w32i (by omega) (by omega)) ?_
            refine AtL.shl (z := (((l.getD 1 0).toNat : Int) % 64) * 64) (.inl rfl) rfl rfl rfl (by omega) (shl_eq32 _ _ 6 rfl (by decide) _ (by decide) (by omega) (by omega)) ?_
            obtain ⟨z2, hz2, hz2a, hz2b, hz2c⟩ := or32 (a := (((l.getD 0 0).toNat : Int) % 16) * 4096) (b := (((l.getD 1 0).toNat : Int) % 64) * 64) 16 (by decide) (by omega) (by omega) (by omega) (by omega)
            refine AtL.bor (z := z2) (.inl rfl) rfl rfl rfl hz2 ?_
            refine AtL.move (.inl rfl) rfl rfl ?_
            refine AtL.band (z := ((l.getD 2 0).toNat : Int) % 64) (.inl rfl) rfl rfl rfl (and8 6 (by decide) (by omega) (by omega)) ?_
            refine AtL.convInt (z := ((l.getD 2 0).toNat : Int) % 64) Tryd.underlying5 Tryd.underlying21 (.inl rfl) rfl rfl (w32i (by omega) (by omega)) ?_
            obtain ⟨z3, hz3, hz3a, hz3b, hz3c⟩ := or32 (a := z2) (b := ((l.getD 2 0).toNat : Int) % 64) 16 (by decide) (by omega) (by omega) (by omega) (by omega)
            refine AtL.bor (z := z3) (.inl rfl) rfl rfl rfl hz3 ?_
            refine AtL.assign (.inl rfl) rfl rfl ?_
            refine AtL.assign (.inl rfl) rfl rfl ?_
            refine AtL.done ?_
            refine At.pick (H' := H) [] 1 rfl rfl ?_
            exact At.ret Tryd.func189 rfl rfl (⟨_, 3, rfl, ⟨by omega, by omega, fun i h1 h2 => (by rcases (show i = 1 ∨ i = 2 by omega) with rfl | rfl <;> omega), .inr (.inr (.inl ⟨rfl, by omega, by omega⟩))⟩, rfl⟩)

set_option maxHeartbeats 400000 in
theorem slow_35 {w0 : World} {base : Nat} {H : List Seg} {A : Option Addr} {C : Nat} {l : List UInt8} (h : Rd tyB w0 base H A C l) (T : Tabs w0 base) (hl : l ≠ []) (hx : (Lib.firstT (l.getD 0 0).toNat : Int) = 35) (hp : (l.getD 0 0).toNat = 237) :
    SCalls Tryd.prog 189 [.slice A l.length C] w0 base (H) (fun v H' => ∃ (r : Int) (n : Nat), v = .tuple #[.int .i32 r, int (n : Int)] ∧ decOk l r n ∧ H' = H) := by
  have hpos := List.length_pos_iff.2 hl
  have hcap := h.cap
  have hle := h.le
  have hb0 := u8_le (l.getD 0 0)
  have hb1 := u8_le (l.getD 1 0)
  have hb2 := u8_le (l.getD 2 0)
  have hb3 := u8_le (l.getD 3 0)
  refine SCalls.of_walk (n := 122) Tryd.func189 rfl rfl rfl fun cs => ?_
  refine At.seq ?_
  refine At.region ?_
  refine AtL.assign (.inl rfl) rfl rfl ?_
  refine AtL.assign (.inl rfl) rfl rfl ?_
  refine AtL.done ?_
  refine At.seq ?_
  refine At.region ?_
  refine AtL.move (.inl rfl) rfl rfl ?_
  refine AtL.lenL Tryd.underlying25 (.inl rfl) rfl rfl ?_
  refine AtL.assign (.inl rfl) rfl rfl ?_
  refine AtL.done ?_
  refine At.seq ?_
  refine At.seq ?_
  refine At.region ?_
  refine AtL.move (.inl rfl) rfl rfl ?_
  refine AtL.lss (.inl rfl) rfl rfl rfl ?_
  refine AtL.done ?_
  refine At.condIs false rfl (decide_eq_false (by omega)) ?_
  refine At.skip ?_
  refine At.seq ?_
  refine At.region ?_
  refine AtL.move (.inl rfl) rfl rfl ?_
  refine AtL.indexL 0 h Tryd.underlying25 tf_sz5 (.inl rfl) rfl rfl rfl rfl (by omega) ?_
  refine AtL.load (v := .int .u8 ((l.getD 0 0).toNat : Int)) tf_flat5 (.inl rfl) rfl rfl (Rd.cell0 h (getD_some 0 (by omega)) rfl) ?_
  refine AtL.assign (.inl rfl) rfl rfl ?_
  refine AtL.done ?_
  refine At.seq ?_
  refine At.region ?_
  refine AtL.move (.inl rfl) rfl rfl ?_
  refine AtL.indexArr (a := ⟨2, 0, none⟩) ((l.getD 0 0).toNat) Tryd.underlying144 tf_sz5 (.inl rfl) rfl rfl rfl rfl (by omega) ?_
  refine AtL.load (v := .int .u8 35) tf_flat5 (.inl rfl) rfl rfl (T.one (l.getD 0 0) hx) ?_
  refine AtL.assign (.inl rfl) rfl rfl ?_
  refine AtL.done ?_
  refine At.seq ?_
  refine At.seq ?_
  refine At.region ?_
  refine AtL.move (.inl rfl) rfl rfl ?_
  refine AtL.geq (.inl rfl) rfl rfl rfl ?_
  refine AtL.done ?_
  refine At.condF rfl ?_
  refine At.skip ?_
  refine At.seq ?_
  refine At.region ?_
  refine AtL.move (.inl rfl) rfl rfl ?_
  refine AtL.band (z := 3) (.inl rfl) rfl rfl rfl (by decide) ?_
  refine AtL.convInt (z := 3) Tryd.underlying5 Tryd.underlying3 (.inl rfl) rfl rfl (by decide) ?_
  refine AtL.assign (.inl rfl) rfl rfl ?_
  refine AtL.done ?_
  refine At.seq ?_
  refine At.region ?_
  refine AtL.move (.inl rfl) rfl rfl ?_
  refine AtL.shr (z := 2) (.inl rfl) rfl rfl rfl (by decide) (by decide) ?_
  refine AtL.indexArr (a := ⟨3, 0, none⟩) 2 Tryd.underlying213 tf_sz212 (.inl rfl) rfl rfl rfl rfl (by omega) ?_
  refine AtL.loadN (cs := [.int .u8 128, .int .u8 159]) tf_agg212 (.inl rfl) rfl rfl rfl (T.two 2 (by decide) (by decide) (by decide)) ?_
  refine AtL.alloc tf_zero212 (cs := #[.int .u8 0, .int .u8 0]) rfl (.inl rfl) rfl ?_
  intro b1
  refine AtL.store (H' := [(b1, .cells #[.int .u8 128, .int .u8 159] 212 (0, 0))] :: H) 0 0 tf_sz212 (.inl rfl) rfl rfl rfl rfl rfl rfl rfl rfl rfl ?_
  refine AtL.done ?_
  refine At.seq ?_
  refine At.seq ?_
  refine At.region ?_
  refine AtL.move (.inl rfl) rfl rfl ?_
  refine AtL.move (.inl rfl) rfl rfl ?_
  refine AtL.lss (.inl rfl) rfl rfl rfl ?_
  refine AtL.done ?_
  refine At.cond rfl ?_ ?_
  · intro hc3
    have hc3 : (l.length : Int) < 3 := of_decide_eq_true hc3
    refine At.seq ?_
    refine At.region ?_
    refine AtL.assign (.inl rfl) rfl rfl ?_
    refine AtL.assign (.inl rfl) rfl rfl ?_
    refine AtL.done ?_
    refine At.pick (H' := H) [] 1 rfl rfl ?_
    exact At.ret Tryd.func189 rfl rfl (⟨_, 1, rfl, ⟨by omega, by omega, fun i h1 h2 => by omega, .inl rfl⟩, rfl⟩)
  · intro hc3
    have hc3 : ¬ ((l.length : Int) < 3) := of_decide_eq_false hc3
    refine At.skip ?_
    refine At.seq ?_
    refine At.region ?_
    refine AtL.move (.inl rfl) rfl rfl ?_
    refine AtL.indexL 1 (Rd.skip 1 h) Tryd.underlying25 tf_sz5 (.inl rfl) rfl rfl rfl rfl (by omega) ?_
    refine AtL.load (v := .int .u8 ((l.getD 1 0).toNat : Int)) tf_flat5 (.inl rfl) rfl rfl (Rd.cell0 (Rd.skip 1 h) (getD_some 0 (by omega)) rfl) ?_
    refine AtL.assign (.inl rfl) rfl rfl ?_
    refine AtL.done ?_
    refine At.seq ?_
    refine At.seq ?_
    refine At.region ?_
    refine AtL.move (.inl rfl) rfl rfl ?_
    refine AtL.fieldAddrB tf_fo212_0 (.inl rfl) rfl rfl rfl ?_
    refine AtL.load tf_flat5 (.inl rfl) rfl rfl (Cell.own 0 0 rfl rfl rfl) ?_
    refine AtL.lss (.inl rfl) rfl rfl rfl ?_
    refine AtL.move (.inl rfl) rfl rfl ?_
    refine AtL.join 5 (E' := [(60, .bool (decide ((((l.getD 1 0).toNat : Int) < 128) ∨ (159 < ((l.getD 1 0).toNat : Int))))), (0, .slice A l.length C), (5, .int .u8 ((l.getD 0 0).toNat : Int)), (8, .int .i64 3), (10, .int .u8 ((l.getD 1 0).toNat : Int))]) (H' := [(b1, .cells #[.int .u8 128, .int .u8 159] 212 (0, 0))] :: H) (fun J => ?_) ?_
    · refine AtL.split (t := 55) rfl ?_ ?_
      · intro hs55
        have hs55 : ((l.getD 1 0).toNat : Int) < 128 := of_decide_eq_true hs55
        refine AtL.skipped rfl rfl rfl rfl rfl rfl ?_
        refine AtL.skipped rfl rfl rfl rfl rfl rfl ?_
        refine AtL.skipped rfl rfl rfl rfl rfl rfl ?_
        refine AtL.skipped rfl rfl rfl rfl rfl rfl ?_
        refine AtL.pickT (.inl rfl) rfl rfl rfl ?_
        exact J _ (by exact ⟨(boolIs (by clear J; first | (simp [hs55]; done) | (simp_all; done) | grind)), rfl, rfl, rfl, rfl, trivial⟩)
      · intro hs55
        have hs55 : ¬ (((l.getD 1 0).toNat : Int) < 128) := of_decide_eq_false hs55
        refine AtL.fieldAddrB tf_fo212_1 (.inr ⟨_, _, _, rfl, rfl, rfl, rfl⟩) rfl rfl rfl ?_
        refine AtL.load tf_flat5 (.inr ⟨_, _, _, rfl, rfl, rfl, rfl⟩) rfl rfl (Cell.own 0 0 rfl rfl rfl) ?_
        refine AtL.move (.inr ⟨_, _, _, rfl, rfl, rfl, rfl⟩) rfl rfl ?_
        refine AtL.lss (.inr ⟨_, _, _, rfl, rfl, rfl, rfl⟩) rfl rfl rfl ?_
        refine AtL.pickF (.inl rfl) rfl rfl rfl ?_
        exact J _ (by exact ⟨(boolIs (by clear J; first | (simp [hs55]; done) | (simp_all; done) | grind)), rfl, rfl, rfl, rfl, trivial⟩)
    · skip
      refine AtL.done ?_
      refine At.cond rfl ?_ ?_
      · intro hc4
        have hc4 : (((l.getD 1 0).toNat : Int) < 128) ∨ (159 < ((l.getD 1 0).toNat : Int)) := of_decide_eq_true hc4
        refine At.seq ?_
        refine At.region ?_
        refine AtL.assign (.inl rfl) rfl rfl ?_
        refine AtL.assign (.inl rfl) rfl rfl ?_
        refine AtL.done ?_
        refine At.pick (H' := H) [] 1 rfl rfl ?_
        exact At.ret Tryd.func189 rfl rfl (⟨_, 1, rfl, ⟨by omega, by omega, fun i h1 h2 => by omega, .inl rfl⟩, rfl⟩)
      · intro hc4
        have hc4 : ¬ ((((l.getD 1 0).toNat : Int) < 128) ∨ (159 < ((l.getD 1 0).toNat : Int))) := of_decide_eq_false hc4
        refine At.skip ?_
        refine At.seq ?_
        refine At.seq ?_
        refine At.region ?_
        refine AtL.move (.inl rfl) rfl rfl ?_
        refine AtL.leq (.inl rfl) rfl rfl rfl ?_
        refine AtL.done ?_
        refine At.condF rfl ?_
        refine At.skip ?_
        refine At.seq ?_
        refine At.region ?_
        refine AtL.move (.inl rfl) rfl rfl ?_
        refine AtL.indexL 2 (Rd.skip 1 h) Tryd.underlying25 tf_sz5 (.inl rfl) rfl rfl rfl rfl (by omega) ?_
        refine AtL.load (v := .int .u8 ((l.getD 2 0).toNat : Int)) tf_flat5 (.inl rfl) rfl rfl (Rd.cell0 (Rd.skip 1 h) (getD_some 0 (by omega)) rfl) ?_
        refine AtL.assign (.inl rfl) rfl rfl ?_
        refine AtL.done ?_
        refine At.seq ?_
        refine At.seq ?_
        refine At.region ?_
        refine AtL.move (.inl rfl) rfl rfl ?_
        refine AtL.lss (.inl rfl) rfl rfl rfl ?_
        refine AtL.move (.inl rfl) rfl rfl ?_
        refine AtL.join 3 (E' := [(79, .bool (decide ((((l.getD 2 0).toNat : Int) < 128) ∨ (191 < ((l.getD 2 0).toNat : Int))))), (0, .slice A l.length C), (5, .int .u8 ((l.getD 0 0).toNat : Int)), (8, .int .i64 3), (10, .int .u8 ((l.getD 1 0).toNat : Int)), (11, .int .u8 ((l.getD 2 0).toNat : Int))]) (H' := [(b1, .cells #[.int .u8 128, .int .u8 159] 212 (0, 0))] :: H) (fun J => ?_) ?_
        · refine AtL.split (t := 76) rfl ?_ ?_
          · intro hs76
            have hs76 : ((l.getD 2 0).toNat : Int) < 128 := of_decide_eq_true hs76
            refine AtL.skipped rfl rfl rfl rfl rfl rfl ?_
            refine AtL.skipped rfl rfl rfl rfl rfl rfl ?_
            refine AtL.pickT (.inl rfl) rfl rfl rfl ?_
            exact J _ (by exact ⟨(boolIs (by clear J; first | (simp [hs76]; done) | (simp_all; done) | grind)), rfl, rfl, rfl, rfl, rfl, trivial⟩)
          · intro hs76
            have hs76 : ¬ (((l.getD 2 0).toNat : Int) < 128) := of_decide_eq_false hs76
            refine AtL.move (.inr ⟨_, _, _, rfl, rfl, rfl, rfl⟩) rfl rfl ?_
            refine AtL.lss (.inr ⟨_, _, _, rfl, rfl, rfl, rfl⟩) rfl rfl rfl ?_
            refine AtL.pickF (.inl rfl) rfl rfl rfl ?_
            exact J _ (by exact ⟨(boolIs (by clear J; first | (simp [hs76]; done) | (simp_all; done) | grind)), rfl, rfl, rfl, rfl, rfl, trivial⟩)
        · skip
          refine AtL.done ?_
          refine At.cond rfl ?_ ?_
          · intro hc6
            have hc6 : (((l.getD 2 0).toNat : Int) < 128) ∨ (191 < ((l.getD 2 0).toNat : Int)) := of_decide_eq_true hc6
            refine At.seq ?_
            refine At.region ?_
            refine AtL.assign (.inl rfl) rfl rfl ?_
            refine AtL.assign (.inl rfl) rfl rfl ?_
            refine AtL.done ?_
            refine At.pick (H' := H) [] 1 rfl rfl ?_
            exact At.ret Tryd.func189 rfl rfl (⟨_, 1, rfl, ⟨by omega, by omega, fun i h1 h2 => by omega, .inl rfl⟩, rfl⟩)
          · intro hc6
            have hc6 : ¬ ((((l.getD 2 0).toNat : Int) < 128) ∨ (191 < ((l.getD 2 0).toNat : Int))) := of_decide_eq_false hc6
            refine At.skip ?_
            refine At.seq ?_
            refine At.seq ?_
            refine At.region ?_
            refine AtL.move (.inl rfl) rfl rfl ?_
            refine AtL.leq (.inl rfl) rfl rfl rfl ?_
            refine AtL.done ?_
            refine At.condT rfl ?_
            refine At.seq ?_
            refine At.region ?_
            refine AtL.move (.inl rfl) rfl rfl ?_
            refine AtL.band (z := ((l.getD 0 0).toNat : Int) % 16) (.inl rfl) rfl rfl rfl (and8 4 (by decide) (by omega) (by omega)) ?_
            refine AtL.convInt (z := ((l.getD 0 0).toNat : Int) % 16) Tryd.underlying5 Tryd.underlying21 (.inl rfl) rfl rfl (w32i (by omega) (by omega)) ?_
            refine AtL.shl (z := (((l.getD 0 0).toNat : Int) % 16) * 4096) (.inl rfl) rfl rfl rfl (by omega) (shl_eq32 _ _ 12 rfl (by decide) _ (by decide) (by omega) (by omega)) ?_
            refine AtL.move (.inl rfl) rfl rfl ?_
            refine AtL.band (z := ((l.getD 1 0).toNat : Int) % 64) (.inl rfl) rfl rfl rfl (and8 6 (by decide) (by omega) (by omega)) ?_
            refine AtL.convInt (z := ((l.getD 1 0).toNat : Int) % 64) Tryd.underlying5 Tryd.underlying21 (.inl rfl) rfl rfl (w32i (by omega) (by omega)) ?_
            refine AtL.shl (z := (((l.getD 1 0).toNat : Int) % 64) * 64) (.inl rfl) rfl rfl rfl (by omega) (shl_eq32 _ _ 6 rfl (by decide) _ (by decide) (by omega) (by omega)) ?_
            obtain ⟨z2, hz2, hz2a, hz2b, hz2c⟩ := or32 (a := (((l.getD 0 0).toNat : Int) % 16) * 4096) (b := (((l.getD 1 0).toNat : Int) % 64) * 64) 16 (by decide) (by omega) (by omega) (by omega) (by omega)
            refine AtL.bor (z := z2) (.inl rfl) rfl rfl rfl hz2 ?_
            refine AtL.move (.inl rfl) rfl rfl ?_
            refine AtL.band (z := ((l.getD 2 0).toNat : Int) % 64) (.inl rfl) rfl rfl rfl (and8 6 (by decide) (by omega) (by omega)) ?_
            refine AtL.convInt (z := ((l.getD 2 0).toNat : Int) % 64) Tryd.underlying5 Tryd.underlying21 (.inl rfl) rfl rfl (w32i (by omega) (by omega)) ?_
            obtain ⟨z3, hz3, hz3a, hz3b, hz3c⟩ := or32 (a := z2) (b := ((l.getD 2 0).toNat : Int) % 64) 16 (by decide) (by omega) (by omega) (by omega) (by omega)
            refine AtL.bor (z := z3) (.inl rfl) rfl rfl rfl hz3 ?_
            refine AtL.assign (.inl rfl) rfl rfl ?_
            refine AtL.assign (.inl rfl) rfl rfl ?_
            refine AtL.done ?_
            refine At.pick (H' := H) [] 1 rfl rfl ?_
            exact At.ret Tryd.func189 rfl rfl (⟨_, 3, rfl, ⟨by omega, by omega, fun i h1 h2 => (by rcases (show i = 1 ∨ i = 2 by omega) with rfl | rfl <;> omega), .inr (.inr (.inl ⟨rfl, by omega, by omega⟩))⟩, rfl⟩)

set_option maxHeartbeats 400000 in
theorem slow_52 {w0 : World} {base : Nat} {H : List Seg} {A : Option Addr} {C : Nat} {l : List UInt8} (h : Rd tyB w0 base H A C l) (T : Tabs w0 base) (hl : l ≠ []) (hx : (Lib.firstT (l.getD 0 0).toNat : Int) = 52) (hp : (l.getD 0 0).toNat = 240) :
    SCalls Tryd.prog 189 [.slice A l.length C] w0 base (H) (fun v H' => ∃ (r : Int) (n : Nat), v = .tuple #[.int .i32 r, int (n : Int)] ∧ decOk l r n ∧ H' = H) := by
  have hpos := List.length_pos_iff.2 hl
  have hcap := h.cap
  have hle := h.le
  have hb0 := u8_le (l.getD 0 0)
  have hb1 := u8_le (l.getD 1 0)
  have hb2 := u8_le (l.getD 2 0)
  have hb3 := u8_le (l.getD 3 0)
  refine SCalls.of_walk (n := 122) Tryd.func189 rfl rfl rfl fun cs => ?_
  refine At.seq ?_
  refine At.region ?_
  refine AtL.assign (.inl rfl) rfl rfl ?_
  refine AtL.assign (.inl rfl) rfl rfl ?_
  refine AtL.done ?_
  refine At.seq ?_
  refine At.region ?_
  refine AtL.move (.inl rfl) rfl rfl ?_
  refine AtL.lenL Tryd.underlying25 (.inl rfl) rfl rfl ?_
  refine AtL.assign (.inl rfl) rfl rfl ?_
  refine AtL.done ?_
  refine At.seq ?_
  refine At.seq ?_
  refine At.region ?_
  refine AtL.move (.inl rfl) rfl rfl ?_
  refine AtL.lss (.inl rfl) rfl rfl rfl ?_
  refine AtL.done ?_
  refine At.condIs false rfl (decide_eq_false (by omega)) ?_
  refine At.skip ?_
  refine At.seq ?_
  refine At.region ?_
  refine AtL.move (.inl rfl) rfl rfl ?_
  refine AtL.indexL 0 h Tryd.underlying25 tf_sz5 (.inl rfl) rfl rfl rfl rfl (by omega) ?_
  refine AtL.load (v := .int .u8 ((l.getD 0 0).toNat : Int)) tf_flat5 (.inl rfl) rfl rfl (Rd.cell0 h (getD_some 0 (by omega)) rfl) ?_
  refine AtL.assign (.inl rfl) rfl rfl ?_
  refine AtL.done ?_
  refine At.seq ?_
  refine At.region ?_
  refine AtL.move (.inl rfl) rfl rfl ?_
  refine AtL.indexArr (a := ⟨2, 0, none⟩) ((l.getD 0 0).toNat) Tryd.underlying144 tf_sz5 (.inl rfl) rfl rfl rfl rfl (by omega) ?_
  refine AtL.load (v := .int .u8 52) tf_flat5 (.inl rfl) rfl rfl (T.one (l.getD 0 0) hx) ?_
  refine AtL.assign (.inl rfl) rfl rfl ?_
  refine AtL.done ?_
  refine At.seq ?_
  refine At.seq ?_
  refine At.region ?_
  refine AtL.move (.inl rfl) rfl rfl ?_
  refine AtL.geq (.inl rfl) rfl rfl rfl ?_
  refine AtL.done ?_
  refine At.condF rfl ?_
  refine At.skip ?_
  refine At.seq ?_
  refine At.region ?_
  refine AtL.move (.inl rfl) rfl rfl ?_
  refine AtL.band (z := 4) (.inl rfl) rfl rfl rfl (by decide) ?_
  refine AtL.convInt (z := 4) Tryd.underlying5 Tryd.underlying3 (.inl rfl) rfl rfl (by decide) ?_
  refine AtL.assign (.inl rfl) rfl rfl ?_
  refine AtL.done ?_
  refine At.seq ?_
  refine At.region ?_
  refine AtL.move (.inl rfl) rfl rfl ?_
  refine AtL.shr (z := 3) (.inl rfl) rfl rfl rfl (by decide) (by decide) ?_
  refine AtL.indexArr (a := ⟨3, 0, none⟩) 3 Tryd.underlying213 tf_sz212 (.inl rfl) rfl rfl rfl rfl (by omega) ?_
  refine AtL.loadN (cs := [.int .u8 144, .int .u8 191]) tf_agg212 (.inl rfl) rfl rfl rfl (T.two 3 (by decide) (by decide) (by decide)) ?_
  refine AtL.alloc tf_zero212 (cs := #[.int .u8 0, .int .u8 0]) rfl (.inl rfl) rfl ?_
  intro b1
  refine AtL.store (H' := [(b1, .cells #[.int .u8 144, .int .u8 191] 212 (0, 0))] :: H) 0 0 tf_sz212 (.inl rfl) rfl rfl rfl rfl rfl rfl rfl rfl rfl ?_
  refine AtL.done ?_
  refine At.seq ?_
  refine At.seq ?_
  refine At.region ?_
  refine AtL.move (.inl rfl) rfl rfl ?_
  refine AtL.move (.inl rfl) rfl rfl ?_
  refine AtL.lss (.inl rfl) rfl rfl rfl ?_
  refine AtL.done ?_
  refine At.cond rfl ?_ ?_
  · intro hc3
    have hc3 : (l.length : Int) < 4 := of_decide_eq_true hc3
    refine At.seq ?_
    refine At.region ?_
    refine AtL.assign (.inl rfl) rfl rfl ?_
    refine AtL.assign (.inl rfl) rfl rfl ?_
    refine AtL.done ?_
    refine At.pick (H' := H) [] 1 rfl rfl ?_
    exact At.ret Tryd.func189 rfl rfl (⟨_, 1, rfl, ⟨by omega, by omega, fun i h1 h2 => by omega, .inl rfl⟩, rfl⟩)
  · intro hc3
    have hc3 : ¬ ((l.length : Int) < 4) := of_decide_eq_false hc3
    refine At.skip ?_
    refine At.seq ?_
    refine At.region ?_
    refine AtL.move (.inl rfl) rfl rfl ?_
    refine AtL.indexL 1 (Rd.skip 1 h) Tryd.underlying25 tf_sz5 (.inl rfl) rfl rfl rfl rfl (by omega) ?_
    refine AtL.load (v := .int .u8 ((l.getD 1 0).toNat : Int)) tf_flat5 (.inl rfl) rfl rfl (Rd.cell0 (Rd.skip 1 h) (getD_some 0 (by omega)) rfl) ?_
    refine AtL.assign (.inl rfl) rfl rfl ?_
    refine AtL.done ?_
    refine At.seq ?_
    refine At.seq ?_
    refine At.region ?_
    refine AtL.move (.inl rfl) rfl rfl ?_
    refine AtL.fieldAddrB tf_fo212_0 (.inl rfl) rfl rfl rfl ?_
    refine AtL.load tf_flat5 (.inl rfl) rfl rfl (Cell.own 0 0 rfl rfl rfl) ?_
    refine AtL.lss (.inl rfl) rfl rfl rfl ?_
    refine AtL.move (.inl rfl) rfl rfl ?_
    refine AtL.join 5 (E' := [(60, .bool (decide ((((l.getD 1 0).toNat : Int) < 144) ∨ (191 < ((l.getD 1 0).toNat : Int))))), (0, .slice A l.length C), (5, .int .u8 ((l.getD 0 0).toNat : Int)), (8, .int .i64 4), (10, .int .u8 ((l.getD 1 0).toNat : Int))]) (H' := [(b1, .cells #[.int .u8 144, .int .u8 191] 212 (0, 0))] :: H) (fun J => ?_) ?_
    · refine AtL.split (t := 55) rfl ?_ ?_
      · intro hs55
        have hs55 : ((l.getD 1 0).toNat : Int) < 144 := of_decide_eq_true hs55
        refine AtL.skipped rfl rfl rfl rfl rfl rfl ?_
        refine AtL.skipped rfl rfl rfl rfl rfl rfl ?_
        refine AtL.skipped rfl rfl rfl rfl rfl rfl ?_
        refine AtL.skipped rfl rfl rfl rfl rfl rfl ?_
        refine AtL.pickT (.inl rfl) rfl rfl rfl ?_
        exact J _ (by exact ⟨(boolIs (by clear J; first | (simp [hs55]; done) | (simp_all; done) | grind)), rfl, rfl, rfl, rfl, trivial⟩)
      · intro hs55
        have hs55 : ¬ (((l.getD 1 0).toNat : Int) < 144) := of_decide_eq_false hs55
        refine AtL.fieldAddrB tf_fo212_1 (.inr ⟨_, _, _, rfl, rfl, rfl, rfl⟩) rfl rfl rfl ?_
        refine AtL.load tf_flat5 (.inr ⟨_, _, _, rfl, rfl, rfl, rfl⟩) rfl rfl (Cell.own 0 0 rfl rfl rfl) ?_
        refine AtL.move (.inr ⟨_, _, _, rfl, rfl, rfl, rfl⟩) rfl rfl ?_
        refine AtL.lss (.inr ⟨_, _, _, rfl, rfl, rfl, rfl⟩) rfl rfl rfl ?_
        refine AtL.pickF (.inl rfl) rfl rfl rfl ?_
        exact J _ (by exact ⟨(boolIs (by clear J; first | (simp [hs55]; done) | (simp_all; done) | grind)), rfl, rfl, rfl, rfl, trivial⟩)
    · skip
      refine AtL.done ?_
      refine At.cond rfl ?_ ?_
      · intro hc4
        have hc4 : (((l.getD 1 0).toNat : Int) < 144) ∨ (191 < ((l.getD 1 0).toNat : Int)) := of_decide_eq_true hc4
        refine At.seq ?_
        refine At.region ?_
        refine AtL.assign (.inl rfl) rfl rfl ?_
        refine AtL.assign (.inl rfl) rfl rfl ?_
        refine AtL.done ?_
        refine At.pick (H' := H) [] 1 rfl rfl ?_
        exact At.ret Tryd.func189 rfl rfl (⟨_, 1, rfl, ⟨by omega, by omega, fun i h1 h2 => by omega, .inl rfl⟩, rfl⟩)
      · intro hc4
        have hc4 : ¬ ((((l.getD 1 0).toNat : Int) < 144) ∨ (191 < ((l.getD 1 0).toNat : Int))) := of_decide_eq_false hc4
        refine At.skip ?_
        refine At.seq ?_
        refine At.seq ?_
        refine At.region ?_
        refine AtL.move (.inl rfl) rfl rfl ?_
        refine AtL.leq (.inl rfl) rfl rfl rfl ?_
        refine AtL.done ?_
        refine At.condF rfl ?_
        refine At.skip ?_
        refine At.seq ?_
        refine At.region ?_
        refine AtL.move (.inl rfl) rfl rfl ?_
        refine AtL.indexL 2 (Rd.skip 1 h) Tryd.underlying25 tf_sz5 (.inl rfl) rfl rfl rfl rfl (by omega) ?_
        refine AtL.load (v := .int .u8 ((l.getD 2 0).toNat : Int)) tf_flat5 (.inl rfl) rfl rfl (Rd.cell0 (Rd.skip 1 h) (getD_some 0 (by omega)) rfl) ?_
        refine AtL.assign (.inl rfl) rfl rfl ?_
        refine AtL.done ?_
        refine At.seq ?_
        refine At.seq ?_
        refine At.region ?_
        refine AtL.move (.inl rfl) rfl rfl ?_
        refine AtL.lss (.inl rfl) rfl rfl rfl ?_
        refine AtL.move (.inl rfl) rfl rfl ?_
        refine AtL.join 3 (E' := [(79, .bool (decide ((((l.getD 2 0).toNat : Int) < 128) ∨ (191 < ((l.getD 2 0).toNat : Int))))), (0, .slice A l.length C), (5, .int .u8 ((l.getD 0 0).toNat : Int)), (8, .int .i64 4), (10, .int .u8 ((l.getD 1 0).toNat : Int)), (11, .int .u8 ((l.getD 2 0).toNat : Int))]) (H' := [(b1, .cells #[.int .u8 144, .int .u8 191] 212 (0, 0))] :: H) (fun J => ?_) ?_
        · refine AtL.split (t := 76) rfl ?_ ?_
          · intro hs76
            have hs76 : ((l.getD 2 0).toNat : Int) < 128 := of_decide_eq_true hs76
            refine AtL.skipped rfl rfl rfl rfl rfl rfl ?_
            refine AtL.skipped rfl rfl rfl rfl rfl rfl ?_
            refine AtL.pickT (.inl rfl) rfl rfl rfl ?_
            exact J _ (by exact ⟨(boolIs (by clear J; first | (simp [hs76]; done) | (simp_all; done) | grind)), rfl, rfl, rfl, rfl, rfl, trivial⟩)
          · intro hs76
            have hs76 : ¬ (((l.getD 2 0).toNat : Int) < 128) := of_decide_eq_false hs76
            refine AtL.move (.inr ⟨_, _, _, rfl, rfl, rfl, rfl⟩) rfl rfl ?_
            refine AtL.lss (.inr ⟨_, _, _, rfl, rfl, rfl, rfl⟩) rfl rfl rfl ?_
            refine AtL.pickF (.inl rfl) rfl rfl rfl ?_
            exact J _ (by exact ⟨(boolIs (by clear J; first | (simp [hs76]; done) | (simp_all; done) | grind)), rfl, rfl, rfl, rfl, rfl, trivial⟩)
        · skip
          refine AtL.done ?_
          refine At.cond rfl ?_ ?_
          · intro hc6
            have hc6 : (((l.getD 2 0).toNat : Int) < 128) ∨ (191 < ((l.getD 2 0).toNat : Int)) := of_decide_eq_true hc6
            refine At.seq ?_
            refine At.region ?_
            refine AtL.assign (.inl rfl) rfl rfl ?_
            refine AtL.assign (.inl rfl) rfl rfl ?_
            refine AtL.done ?_
            refine At.pick (H' := H) [] 1 rfl rfl ?_
            exact At.ret Tryd.func189 rfl rfl (⟨_, 1, rfl, ⟨by omega, by omega, fun i h1 h2 => by omega, .inl rfl⟩, rfl⟩)
          · intro hc6
            have hc6 : ¬ ((((l.getD 2 0).toNat : Int) < 128) ∨ (191 < ((l.getD 2 0).toNat : Int))) := of_decide_eq_false hc6
            refine At.skip ?_
            refine At.seq ?_
            refine At.seq ?_
            refine At.region ?_
            refine AtL.move (.inl rfl) rfl rfl ?_
            refine AtL.leq (.inl rfl) rfl rfl rfl ?_
            refine AtL.done ?_
            refine At.condF rfl ?_
            refine At.skip ?_
            refine At.seq ?_
            refine At.region ?_
            refine AtL.move (.inl rfl) rfl rfl ?_
            refine AtL.indexL 3 (Rd.skip 1 h) Tryd.underlying25 tf_sz5 (.inl rfl) rfl rfl rfl rfl (by omega) ?_
            refine AtL.load (v := .int .u8 ((l.getD 3 0).toNat : Int)) tf_flat5 (.inl rfl) rfl rfl (Rd.cell0 (Rd.skip 1 h) (getD_some 0 (by omega)) rfl) ?_
            refine AtL.assign (.inl rfl) rfl rfl ?_
            refine AtL.done ?_
            refine At.seq ?_
            refine At.seq ?_
            refine At.region ?_
            refine AtL.move (.inl rfl) rfl rfl ?_
            refine AtL.lss (.inl rfl) rfl rfl rfl ?_
            refine AtL.move (.inl rfl) rfl rfl ?_
            refine AtL.join 3 (E' := [(103, .bool (decide ((((l.getD 3 0).toNat : Int) < 128) ∨ (191 < ((l.getD 3 0).toNat : Int))))), (5, .int .u8 ((l.getD 0 0).toNat : Int)), (10, .int .u8 ((l.getD 1 0).toNat : Int)), (11, .int .u8 ((l.getD 2 0).toNat : Int)), (12, .int .u8 ((l.getD 3 0).toNat : Int))]) (H' := [(b1, .cells #[.int .u8 144, .int .u8 191] 212 (0, 0))] :: H) (fun J => ?_) ?_
            · refine AtL.split (t := 100) rfl ?_ ?_
              · intro hs100
                have hs100 : ((l.getD 3 0).toNat : Int) < 128 := of_decide_eq_true hs100
                refine AtL.skipped rfl rfl rfl rfl rfl rfl ?_
                refine AtL.skipped rfl rfl rfl rfl rfl rfl ?_
                refine AtL.pickT (.inl rfl) rfl rfl rfl ?_
                exact J _ (by exact ⟨(boolIs (by clear J; first | (simp [hs100]; done) | (simp_all; done) | grind)), rfl, rfl, rfl, rfl, trivial⟩)
              · intro hs100
                have hs100 : ¬ (((l.getD 3 0).toNat : Int) < 128) := of_decide_eq_false hs100
                refine AtL.move (.inr ⟨_, _, _, rfl, rfl, rfl, rfl⟩) rfl rfl ?_
                refine AtL.lss (.inr ⟨_, _, _, rfl, rfl, rfl, rfl⟩) rfl rfl rfl ?_
                refine AtL.pickF (.inl rfl) rfl rfl rfl ?_
                exact J _ (by exact ⟨(boolIs (by clear J; first | (simp [hs100]; done) | (simp_all; done) | grind)), rfl, rfl, rfl, rfl, trivial⟩)
            · skip
              refine AtL.done ?_
              refine At.cond rfl ?_ ?_
              · intro hc8
                have hc8 : (((l.getD 3 0).toNat : Int) < 128) ∨ (191 < ((l.getD 3 0).toNat : Int)) := of_decide_eq_true hc8
                refine At.seq ?_
                refine At.region ?_
                refine AtL.assign (.inl rfl) rfl rfl ?_
                refine AtL.assign (.inl rfl) rfl rfl ?_
                refine AtL.done ?_
                refine At.pick (H' := H) [] 1 rfl rfl ?_
                exact At.ret Tryd.func189 rfl rfl (⟨_, 1, rfl, ⟨by omega, by omega, fun i h1 h2 => by omega, .inl rfl⟩, rfl⟩)
              · intro hc8
                have hc8 : ¬ ((((l.getD 3 0).toNat : Int) < 128) ∨ (191 < ((l.getD 3 0).toNat : Int))) := of_decide_eq_false hc8
                refine At.skip ?_
                refine At.seq ?_
                refine At.region ?_
                refine AtL.move (.inl rfl) rfl rfl ?_
                refine AtL.band (z := ((l.getD 0 0).toNat : Int) % 8) (.inl rfl) rfl rfl rfl (and8 3 (by decide) (by omega) (by omega)) ?_
                refine AtL.convInt (z := ((l.getD 0 0).toNat : Int) % 8) Tryd.underlying5 Tryd.underlying21 (.inl rfl) rfl rfl (w32i (by omega) (by omega)) ?_
                refine AtL.shl (z := (((l.getD 0 0).toNat : Int) % 8) * 262144) (.inl rfl) rfl rfl rfl (by omega) (shl_eq32 _ _ 18 rfl (by decide) _ (by decide) (by omega) (by omega)) ?_
                refine AtL.move (.inl rfl) rfl rfl ?_
                refine AtL.band (z := ((l.getD 1 0).toNat : Int) % 64) (.inl rfl) rfl rfl rfl (and8 6 (by decide) (by omega) (by omega)) ?_
                refine AtL.convInt (z := ((l.getD 1 0).toNat : Int) % 64) Tryd.underlying5 Tryd.underlying21 (.inl rfl) rfl rfl (w32i (by omega) (by omega)) ?_
                refine AtL.shl (z := (((l.getD 1 0).toNat : Int) % 64) * 4096) (.inl rfl) rfl rfl rfl (by omega) (shl_eq32 _ _ 12 rfl (by decide) _ (by decide) (by omega) (by omega)) ?_
                obtain ⟨z2, hz2, hz2a, hz2b, hz2c⟩ := or32 (a := (((l.getD 0 0).toNat : Int) % 8) * 262144) (b := (((l.getD 1 0).toNat : Int) % 64) * 4096) 31 (by decide) (by omega) (by omega) (by omega) (by omega)
                refine AtL.bor (z := z2) (.inl rfl) rfl rfl rfl hz2 ?_
                refine AtL.move (.inl rfl) rfl rfl ?_
                refine AtL.band (z := ((l.getD 2 0).toNat : Int) % 64) (.inl rfl) rfl rfl rfl (and8 6 (by decide) (by omega) (by omega)) ?_
                refine AtL.convInt (z := ((l.getD 2 0).toNat : Int) % 64) Tryd.underlying5 Tryd.underlying21 (.inl rfl) rfl rfl (w32i (by omega) (by omega)) ?_
                refine AtL.shl (z := (((l.getD 2 0).toNat : Int) % 64) * 64) (.inl rfl) rfl rfl rfl (by omega) (shl_eq32 _ _ 6 rfl (by decide) _ (by decide) (by omega) (by omega)) ?_
                obtain ⟨z3, hz3, hz3a, hz3b, hz3c⟩ := or32 (a := z2) (b := (((l.getD 2 0).toNat : Int) % 64) * 64) 31 (by decide) (by omega) (by omega) (by omega) (by omega)
                refine AtL.bor (z := z3) (.inl rfl) rfl rfl rfl hz3 ?_
                refine AtL.move (.inl rfl) rfl rfl ?_
                refine AtL.band (z := ((l.getD 3 0).toNat : Int) % 64) (.inl rfl) rfl rfl rfl (and8 6 (by decide) (by omega) (by omega)) ?_
                refine AtL.convInt (z := ((l.getD 3 0).toNat : Int) % 64) Tryd.underlying5 Tryd.underlying21 (.inl rfl) rfl rfl (w32i (by omega) (by omega)) ?_
                obtain ⟨z4, hz4, hz4a, hz4b, hz4c⟩ := or32 (a := z3) (b := ((l.getD 3 0).toNat : Int) % 64) 31 (by decide) (by omega) (by omega) (by omega) (by omega)
                refine AtL.bor (z := z4) (.inl rfl) rfl rfl rfl hz4 ?_
                refine AtL.assign (.inl rfl) rfl rfl ?_
                refine AtL.assign (.inl rfl) rfl rfl ?_
                refine AtL.done ?_
                refine At.pick (H' := H) [] 1 rfl rfl ?_
                exact At.ret Tryd.func189 rfl rfl (⟨_, 4, rfl, ⟨by omega, by omega, fun i h1 h2 => (by rcases (show i = 1 ∨ i = 2 ∨ i = 3 by omega) with rfl | rfl | rfl <;> omega), .inr (.inr (.inr ⟨rfl, by omega, by omega⟩))⟩, rfl⟩)

set_option maxHeartbeats 400000 in
theorem slow_4 {w0 : World} {base : Nat} {H : List Seg} {A : Option Addr} {C : Nat} {l : List UInt8} (h : Rd tyB w0 base H A C l) (T : Tabs w0 base) (hl : l ≠ []) (hx : (Lib.firstT (l.getD 0 0).toNat : Int) = 4) (hp : 241 ≤ (l.getD 0 0).toNat ∧ (l.getD 0 0).toNat < 244) :
    SCalls Tryd.prog 189 [.slice A l.length C] w0 base (H) (fun v H' => ∃ (r : Int) (n : Nat), v = .tuple #[.int .i32 r, int (n : Int)] ∧ decOk l r n ∧ H' = H) := by
  have hpos := List.length_pos_iff.2 hl
  have hcap := h.cap
  have hle := h.le
  have hb0 := u8_le (l.getD 0 0)
  have hb1 := u8_le (l.getD 1 0)
  have hb2 := u8_le (l.getD 2 0)
  have hb3 := u8_le (l.getD 3 0)
  refine SCalls.of_walk (n := 122) Tryd.func189 rfl rfl rfl fun cs => ?_
  refine At.seq ?_
  refine At.region ?_
  refine AtL.assign (.inl rfl) rfl rfl ?_
  refine AtL.assign (.inl rfl) rfl rfl ?_
  refine AtL.done ?_
  refine At.seq ?_
  refine At.region ?_
  refine AtL.move (.inl rfl) rfl rfl ?_
  refine AtL.lenL Tryd.underlying25 (.inl rfl) rfl rfl ?_
  refine AtL.assign (.inl rfl) rfl rfl ?_
  refine AtL.done ?_
  refine At.seq ?_
  refine At.seq ?_
  refine At.region ?_
  refine AtL.move (.inl rfl) rfl rfl ?_
  refine AtL.lss (.inl rfl) rfl rfl rfl ?_
  refine AtL.done ?_
  refine At.condIs false rfl (decide_eq_false (by omega)) ?_
  refine At.skip ?_
  refine At.seq ?_
  refine At.region ?_
  refine AtL.move (.inl rfl) rfl rfl ?_
  refine AtL.indexL 0 h Tryd.underlying25 tf_sz5 (.inl rfl) rfl rfl rfl rfl (by omega) ?_
  refine AtL.load (v := .int .u8 ((l.getD 0 0).toNat : Int)) tf_flat5 (.inl rfl) rfl rfl (Rd.cell0 h (getD_some 0 (by omega)) rfl) ?_
  refine AtL.assign (.inl rfl) rfl rfl ?_
  refine AtL.done ?_
  refine At.seq ?_
  refine At.region ?_
  refine AtL.move (.inl rfl) rfl rfl ?_
  refine AtL.indexArr (a := ⟨2, 0, none⟩) ((l.getD 0 0).toNat) Tryd.underlying144 tf_sz5 (.inl rfl) rfl rfl rfl rfl (by omega) ?_
  refine AtL.load (v := .int .u8 4) tf_flat5 (.inl rfl) rfl rfl (T.one (l.getD 0 0) hx) ?_
  refine AtL.assign (.inl rfl) rfl rfl ?_
  refine AtL.done ?_
  refine At.seq ?_
  refine At.seq ?_
  refine At.region ?_
  refine AtL.move (.inl rfl) rfl rfl ?_
  refine AtL.geq (.inl rfl) rfl rfl rfl ?_
  refine AtL.done ?_
  refine At.condF rfl ?_
  refine At.skip ?_
  refine At.seq ?_
  refine At.region ?_
  refine AtL.move (.inl rfl) rfl rfl ?_
  refine AtL.band (z := 4) (.inl rfl) rfl rfl rfl (by decide) ?_
  refine AtL.convInt (z := 4) Tryd.underlying5 Tryd.underlying3 (.inl rfl) rfl rfl (by decide) ?_
  refine AtL.assign (.inl rfl) rfl rfl ?_
  refine AtL.done ?_
  refine At.seq ?_
  refine At.region ?_
  refine AtL.move (.inl rfl) rfl rfl ?_
  refine AtL.shr (z := 0) (.inl rfl) rfl rfl rfl (by decide) (by decide) ?_
  refine AtL.indexArr (a := ⟨3, 0, none⟩) 0 Tryd.underlying213 tf_sz212 (.inl rfl) rfl rfl rfl rfl (by omega) ?_
  refine AtL.loadN (cs := [.int .u8 128, .int .u8 191]) tf_agg212 (.inl rfl) rfl rfl rfl (T.two 0 (by decide) (by decide) (by decide)) ?_
  refine AtL.alloc tf_zero212 (cs := #[.int .u8 0, .int .u8 0]) rfl (.inl rfl) rfl ?_
  intro b1
  refine AtL.store (H' := [(b1, .cells #[.int .u8 128, .int .u8 191] 212 (0, 0))] :: H) 0 0 tf_sz212 (.inl rfl) rfl rfl rfl rfl rfl rfl rfl rfl rfl ?_
  refine AtL.done ?_
  refine At.seq ?_
  refine At.seq ?_
  refine At.region ?_
  refine AtL.move (.inl rfl) rfl rfl ?_
  refine AtL.move (.inl rfl) rfl rfl ?_
  refine AtL.lss (.inl rfl) rfl rfl rfl ?_
  refine AtL.done ?_
  refine At.cond rfl ?_ ?_
  · intro hc3
    have hc3 : (l.length : Int) < 4 := of_decide_eq_true hc3
    refine At.seq ?_
    refine At.region ?_
    refine AtL.assign (.inl rfl) rfl rfl ?_
    refine AtL.assign (.inl rfl) rfl rfl ?_
    refine AtL.done ?_
    refine At.pick (H' := H) [] 1 rfl rfl ?_
    exact At.ret Tryd.func189 rfl rfl (⟨_, 1, rfl, ⟨by omega, by omega, fun i h1 h2 => by omega, .inl rfl⟩, rfl⟩)
  · intro hc3
    have hc3 : ¬ ((l.length : Int) < 4) := of_decide_eq_false hc3
    refine At.skip ?_
    refine At.seq ?_
    refine At.region ?_
    refine AtL.move (.inl rfl) rfl rfl ?_
    refine AtL.indexL 1 (Rd.skip 1 h) Tryd.underlying25 tf_sz5 (.inl rfl) rfl rfl rfl rfl (by omega) ?_
    refine AtL.load (v := .int .u8 ((l.getD 1 0).toNat : Int)) tf_flat5 (.inl rfl) rfl rfl (Rd.cell0 (Rd.skip 1 h) (getD_some 0 (by omega)) rfl) ?_
    refine AtL.assign (.inl rfl) rfl rfl ?_
    refine AtL.done ?_
    refine At.seq ?_
    refine At.seq ?_
    refine At.region ?_
    refine AtL.move (.inl rfl) rfl rfl ?_
    refine AtL.fieldAddrB tf_fo212_0 (.inl rfl) rfl rfl rfl ?_
    refine AtL.load tf_flat5 (.inl rfl) rfl rfl (Cell.own 0 0 rfl rfl rfl) ?_
    refine AtL.lss (.inl rfl) rfl rfl rfl ?_
    refine AtL.move (.inl rfl) rfl rfl ?_
    refine AtL.join 5 (E' := [(60, .bool (decide ((((l.getD 1 0).toNat : Int) < 128) ∨ (191 < ((l.getD 1 0).toNat : Int))))), (0, .slice A l.length C), (5, .int .u8 ((l.getD 0 0).toNat : Int)), (8, .int .i64 4), (10, .int .u8 ((l.getD 1 0).toNat : Int))]) (H' := [(b1, .cells #[.int .u8 128, .int .u8 191] 212 (0, 0))] :: H) (fun J => ?_) ?_
    · refine AtL.split (t := 55) rfl ?_ ?_
      · intro hs55
        have hs55 : ((l.getD 1 0).toNat : Int) < 128 := of_decide_eq_true hs55
        refine AtL.skipped rfl rfl rfl rfl rfl rfl ?_
        refine AtL.skipped rfl rfl rfl rfl rfl rfl ?_
        refine AtL.skipped rfl rfl rfl rfl rfl rfl ?_
        refine AtL.skipped rfl rfl rfl rfl rfl rfl ?_
        refine AtL.pickT (.inl rfl) rfl rfl rfl ?_
        exact J _ (by exact ⟨(boolIs (by clear J; first | (simp [hs55]; done) | (simp_all; done) | grind)), rfl, rfl, rfl, rfl, trivial⟩)
      · intro hs55
        have hs55 : ¬ (((l.getD 1 0).toNat : Int) < 128) := of_decide_eq_false hs55
        refine AtL.fieldAddrB tf_fo212_1 (.inr ⟨_, _, _, rfl, rfl, rfl, rfl⟩) rfl rfl rfl ?_
        refine AtL.load tf_flat5 (.inr ⟨_, _, _, rfl, rfl, rfl, rfl⟩) rfl rfl (Cell.own 0 0 rfl rfl rfl) ?_
        refine AtL.move (.inr ⟨_, _, _, rfl, rfl, rfl, rfl⟩) rfl rfl ?_
        refine AtL.lss (.inr ⟨_, _, _, rfl, rfl, rfl, rfl⟩) rfl rfl rfl ?_
        refine AtL.pickF (.inl rfl) rfl rfl rfl ?_
        exact J _ (by exact ⟨(boolIs (by clear J; first | (simp [hs55]; done) | (simp_all; done) | grind)), rfl, rfl, rfl, rfl, trivial⟩)
    · skip
      refine AtL.done ?_
      refine At.cond rfl ?_ ?_
      · intro hc4
        have hc4 : (((l.getD 1 0).toNat : Int) < 128) ∨ (191 < ((l.getD 1 0).toNat : Int)) := of_decide_eq_true hc4
        refine At.seq ?_
        refine At.region ?_
        refine AtL.assign (.inl rfl) rfl rfl ?_
        refine AtL.assign (.inl rfl) rfl rfl ?_
        refine AtL.done ?_
        refine At.pick (H' := H) [] 1 rfl rfl ?_
        exact At.ret Tryd.func189 rfl rfl (⟨_, 1, rfl, ⟨by omega, by omega, fun i h1 h2 => by omega, .inl rfl⟩, rfl⟩)
      · intro hc4
        have hc4 : ¬ ((((l.getD 1 0).toNat : Int) < 128) ∨ (191 < ((l.getD 1 0).toNat : Int))) := of_decide_eq_false hc4
        refine At.skip ?_
        refine At.seq ?_
        refine At.seq ?_
        refine At.region ?_
        refine AtL.move (.inl rfl) rfl rfl ?_
        refine AtL.leq (.inl rfl) rfl rfl rfl ?_
        refine AtL.done ?_
        refine At.condF rfl ?_
        refine At.skip ?_
        refine At.seq ?_
        refine At.region ?_
        refine AtL.move (.inl rfl) rfl rfl ?_
        refine AtL.indexL 2 (Rd.skip 1 h) Tryd.underlying25 tf_sz5 (.inl rfl) rfl rfl rfl rfl (by omega) ?_
        refine AtL.load (v := .int .u8 ((l.getD 2 0).toNat : Int)) tf_flat5 (.inl rfl) rfl rfl (Rd.cell0 (Rd.skip 1 h) (getD_some 0 (by omega)) rfl) ?_
        refine AtL.assign (.inl rfl) rfl rfl ?_
        refine AtL.done ?_
        refine At.seq ?_
        refine At.seq ?_
        refine At.region ?_
        refine AtL.move (.inl rfl) rfl rfl ?_
        refine AtL.lss (.inl rfl) rfl rfl rfl ?_
        refine AtL.move (.inl rfl) rfl rfl ?_
        refine AtL.join 3 (E' := [(79, .bool (decide ((((l.getD 2 0).toNat : Int) < 128) ∨ (191 < ((l.getD 2 0).toNat : Int))))), (0, .slice A l.length C), (5, .int .u8 ((l.getD 0 0).toNat : Int)), (8, .int .i64 4), (10, .int .u8 ((l.getD 1 0).toNat : Int)), (11, .int .u8 ((l.getD 2 0).toNat : Int))]) (H' := [(b1, .cells #[.int .u8 128, .int .u8 191] 212 (0, 0))] :: H) (fun J => ?_) ?_
        · refine AtL.split (t := 76) rfl ?_ ?_
          · intro hs76
            have hs76 : ((l.getD 2 0).toNat : Int) < 128 := of_decide_eq_true hs76
            refine AtL.skipped rfl rfl rfl rfl rfl rfl ?_
            refine AtL.skipped rfl rfl rfl rfl rfl rfl ?_
            refine AtL.pickT (.inl rfl) rfl rfl rfl ?_
            exact J _ (by exact ⟨(boolIs (by clear J; first | (simp [hs76]; done) | (simp_all; done) | grind)), rfl, rfl, rfl, rfl, rfl, trivial⟩)
          · intro hs76
            have hs76 : ¬ (((l.getD 2 0).toNat : Int) < 128) := of_decide_eq_false hs76
            refine AtL.move (.inr ⟨_, _, _, rfl, rfl, rfl, rfl⟩) rfl rfl ?_
            refine AtL.lss (.inr ⟨_, _, _, rfl, rfl, rfl, rfl⟩) rfl rfl rfl ?_
            refine AtL.pickF (.inl rfl) rfl rfl rfl ?_
            exact J _ (by exact ⟨(boolIs (by clear J; first | (simp [hs76]; done) | (simp_all; done) | grind)), rfl, rfl, rfl, rfl, rfl, trivial⟩)
        · skip
          refine AtL.done ?_
          refine At.cond rfl ?_ ?_
          · intro hc6
            have hc6 : (((l.getD 2 0).toNat : Int) < 128) ∨ (191 < ((l.getD 2 0).toNat : Int)) := of_decide_eq_true hc6
            refine At.seq ?_
            refine At.region ?_
            refine AtL.assign (.inl rfl) rfl rfl ?_
            refine AtL.assign (.inl rfl) rfl rfl ?_
            refine AtL.done ?_
            refine At.pick (H' := H) [] 1 rfl rfl ?_
            exact At.ret Tryd.func189 rfl rfl (⟨_, 1, rfl, ⟨by omega, by omega, fun i h1 h2 => by omega, .inl rfl⟩, rfl⟩)
          · intro hc6
            have hc6 : ¬ ((((l.getD 2 0).toNat : Int) < 128) ∨ (191 < ((l.getD 2 0).toNat : Int))) := of_decide_eq_false hc6
            refine At.skip ?_
            refine At.seq ?_
            refine At.seq ?_
            refine At.region ?_
            refine AtL.move (.inl rfl) rfl rfl ?_
            refine AtL.leq (.inl rfl) rfl rfl rfl ?_
            refine AtL.done ?_
            refine At.condF rfl ?_
            refine At.skip ?_
            refine At.seq ?_
            refine At.region ?_
            refine AtL.move (.inl rfl) rfl rfl ?_
            refine AtL.indexL 3 (Rd.skip 1 h) Tryd.underlying25 tf_sz5 (.inl rfl) rfl rfl rfl rfl (by omega) ?_
            refine AtL.load (v := .int .u8 ((l.getD 3 0).toNat : Int)) tf_flat5 (.inl rfl) rfl rfl (Rd.cell0 (Rd.skip 1 h) (getD_some 0 (by omega)) rfl) ?_
            refine AtL.assign (.inl rfl) rfl rfl ?_
            refine AtL.done ?_
            refine At.seq ?_
            refine At.seq ?_
            refine At.region ?_
            refine AtL.move (.inl rfl) rfl rfl ?_
            refine AtL.lss (.inl rfl) rfl rfl rfl ?_
            refine AtL.move (.inl rfl) rfl rfl ?_
            refine AtL.join 3 (E' := [(103, .bool (decide ((((l.getD 3 0).toNat : Int) < 128) ∨ (191 < ((l.getD 3 0).toNat : Int))))), (5, .int .u8 ((l.getD 0 0).toNat : Int)), (10, .int .u8 ((l.getD 1 0).toNat : Int)), (11, .int .u8 ((l.getD 2 0).toNat : Int)), (12, .int .u8 ((l.getD 3 0).toNat : Int))]) (H' := [(b1, .cells #[.int .u8 128, .int .u8 191] 212 (0, 0))] :: H) (fun J => ?_) ?_
            · refine AtL.split (t := 100) rfl ?_ ?_
              · intro hs100
                have hs100 : ((l.getD 3 0).toNat : Int) < 128 := of_decide_eq_true hs100
                refine AtL.skipped rfl rfl rfl rfl rfl rfl ?_
                refine AtL.skipped rfl rfl rfl rfl rfl rfl ?_
                refine AtL.pickT (.inl rfl) rfl rfl rfl ?_
                exact J _ (by exact ⟨(boolIs (by clear J; first | (simp [hs100]; done) | (simp_all; done) | grind)), rfl, rfl, rfl, rfl, trivial⟩)
              · intro hs100
                have hs100 : ¬ (((l.getD 3 0).toNat : Int) < 128) := of_decide_eq_false hs100
                refine AtL.move (.inr ⟨_, _, _, rfl, rfl, rfl, rfl⟩) rfl rfl ?_
                refine AtL.lss (.inr ⟨_, _, _, rfl, rfl, rfl, rfl⟩) rfl rfl rfl ?_
                refine AtL.pickF (.inl rfl) rfl rfl rfl ?_
                exact J _ (by exact ⟨(boolIs (by clear J; first | (simp [hs100]; done) | (simp_all; done) | grind)), rfl, rfl, rfl, rfl, trivial⟩)
            · skip
              refine AtL.done ?_
              refine At.cond rfl ?_ ?_
              · intro hc8
                have hc8 : (((l.getD 3 0).toNat : Int) < 128) ∨ (191 < ((l.getD 3 0).toNat : Int)) := of_decide_eq_true hc8
                refine At.seq ?_
                refine At.region ?_
                refine AtL.assign (.inl rfl) rfl rfl ?_
                refine AtL.assign (.inl rfl) rfl rfl ?_
                refine AtL.done ?_
                refine At.pick (H' := H) [] 1 rfl rfl ?_
                exact At.ret Tryd.func189 rfl rfl (⟨_, 1, rfl, ⟨by omega, by omega, fun i h1 h2 => by omega, .inl rfl⟩, rfl⟩)
              · intro hc8
                have hc8 : ¬ ((((l.getD 3 0).toNat : Int) < 128) ∨ (191 < ((l.getD 3 0).toNat : Int))) := of_decide_eq_false hc8
                refine At.skip ?_
                refine At.seq ?_
                refine At.region ?_
                refine AtL.move (.inl rfl) rfl rfl ?_
                refine AtL.band (z := ((l.getD 0 0).toNat : Int) % 8) (.inl rfl) rfl rfl rfl (and8 3 (by decide) (by omega) (by omega)) ?_
                refine AtL.convInt (z := ((l.getD 0 0).toNat : Int) % 8) Tryd.underlying5 Tryd.underlying21 (.inl rfl) rfl rfl (w32i (by omega) (by omega)) ?_
                refine AtL.shl (z := (((l.getD 0 0).toNat : Int) % 8) * 262144) (.inl rfl) rfl rfl rfl (by omega) (shl_eq32 _ _ 18 rfl (by decide) _ (by decide) (by omega) (by omega)) ?_
                refine AtL.move (.inl rfl) rfl rfl ?_
                refine AtL.band (z := ((l.getD 1 0).toNat : Int) % 64) (.inl rfl) rfl rfl rfl (and8 6 (by decide) (by omega) (by omega)) ?_
                refine AtL.convInt (z := ((l.getD 1 0).toNat : Int) % 64) Tryd.underlying5 Tryd.underlying21 (.inl rfl) rfl rfl (w32i (by omega) (by omega)) ?_
                refine AtL.shl (z := (((l.getD 1 0).toNat : Int) % 64) * 4096) (.inl rfl) rfl rfl rfl (by omega) (shl_eq32 _ _ 12 rfl (by decide) _ (by decide) (by omega) (by omega)) ?_
                obtain ⟨z2, hz2, hz2a, hz2b, hz2c⟩ := or32 (a := (((l.getD 0 0).toNat : Int) % 8) * 262144) (b := (((l.getD 1 0).toNat : Int) % 64) * 4096) 31 (by decide) (by omega) (by omega) (by omega) (by omega)
                refine AtL.bor (z := z2) (.inl rfl) rfl rfl rfl hz2 ?_
                refine AtL.move (.inl rfl) rfl rfl ?_
                refine AtL.band (z := ((l.getD 2 0).toNat : Int) % 64) (.inl rfl) rfl rfl rfl (and8 6 (by decide) (by omega) (by omega)) ?_
                refine AtL.convInt (z := ((l.getD 2 0).toNat : Int) % 64) Tryd.underlying5 Tryd.underlying21 (.inl rfl) rfl rfl (w32i (by omega) (by omega)) ?_
                refine AtL.shl (z := (((l.getD 2 0).toNat : Int) % 64) * 64) (.inl rfl) rfl rfl rfl (by omega) (shl_eq32 _ _ 6 rfl (by decide) _ (by decide) (by omega) (by omega)) ?_
                obtain ⟨z3, hz3, hz3a, hz3b, hz3c⟩ := or32 (a := z2) (b := (((l.getD 2 0).toNat : Int) % 64) * 64) 31 (by decide) (by omega) (by omega) (by omega) (by omega)
                refine AtL.bor (z := z3) (.inl rfl) rfl rfl rfl hz3 ?_
                refine AtL.move (.inl rfl) rfl rfl ?_
                refine AtL.band (z := ((l.getD 3 0).toNat : Int) % 64) (.inl rfl) rfl rfl rfl (and8 6 (by decide) (by omega) (by omega)) ?_
                refine AtL.convInt (z := ((l.getD 3 0).toNat : Int) % 64) Tryd.underlying5 Tryd.underlying21 (.inl rfl) rfl rfl (w32i (by omega) (by omega)) ?_
                obtain ⟨z4, hz4, hz4a, hz4b, hz4c⟩ := or32 (a := z3) (b := ((l.getD 3 0).toNat : Int) % 64) 31 (by decide) (by omega) (by omega) (by omega) (by omega)
                refine AtL.bor (z := z4) (.inl rfl) rfl rfl rfl hz4 ?_
                refine AtL.assign (.inl rfl) rfl rfl ?_
                refine AtL.assign (.inl rfl) rfl rfl ?_
                refine AtL.done ?_
                refine At.pick (H' := H) [] 1 rfl rfl ?_
                exact At.ret Tryd.func189 rfl rfl (⟨_, 4, rfl, ⟨by omega, by omega, fun i h1 h2 => (by rcases (show i = 1 ∨ i = 2 ∨ i = 3 by omega) with rfl | rfl | rfl <;> omega), .inr (.inr (.inr ⟨rfl, by omega, by omega⟩))⟩, rfl⟩)

set_option maxHeartbeats 400000 in
theorem slow_68 {w0 : World} {base : Nat} {H : List Seg} {A : Option Addr} {C : Nat} {l : List UInt8} (h : Rd tyB w0 base H A C l) (T : Tabs w0 base) (hl : l ≠ []) (hx : (Lib.firstT (l.getD 0 0).toNat : Int) = 68) (hp : (l.getD 0 0).toNat = 244) :
    SCalls Tryd.prog 189 [.slice A l.length C] w0 base (H) (fun v H' => ∃ (r : Int) (n : Nat), v = .tuple #[.int .i32 r, int (n : Int)] ∧ decOk l r n ∧ H' = H) := by
  have hpos := List.length_pos_iff.2 hl
  have hcap := h.cap
  have hle := h.le
  have hb0 := u8_le (l.getD 0 0)
  have hb1 := u8_le (l.getD 1 0)
  have hb2 := u8_le (l.getD 2 0)
  have hb3 := u8_le (l.getD 3 0)
  refine SCalls.of_walk (n := 122) Tryd.func189 rfl rfl rfl fun cs => ?_
  refine At.seq ?_
  refine At.region ?_
  refine AtL.assign (.inl rfl) rfl rfl ?_
  refine AtL.assign (.inl rfl) rfl rfl ?_
  refine AtL.done ?_
  refine At.seq ?_
  refine At.region ?_
  refine AtL.move (.inl rfl) rfl rfl ?_
  refine AtL.lenL Tryd.underlying25 (.inl rfl) rfl rfl ?_
  refine AtL.assign (.inl rfl) rfl rfl ?_
  refine AtL.done ?_
  refine At.seq ?_
  refine At.seq ?_
  refine At.region ?_
  refine AtL.move (.inl rfl) rfl rfl ?_
  refine AtL.lss (.inl rfl) rfl rfl rfl ?_
  refine AtL.done ?_
  refine At.condIs false rfl (decide_eq_false (by omega)) ?_
  refine At.skip ?_
  refine At.seq ?_
  refine At.region ?_
  refine AtL.move (.inl rfl) rfl rfl ?_
  refine AtL.indexL 0 h Tryd.underlying25 tf_sz5 (.inl rfl) rfl rfl rfl rfl (by omega) ?_
  refine AtL.load (v := .int .u8 ((l.getD 0 0).toNat : Int)) tf_flat5 (.inl rfl) rfl rfl (Rd.cell0 h (getD_some 0 (by omega)) rfl) ?_
  refine AtL.assign (.inl rfl) rfl rfl ?_
  refine AtL.done ?_
  refine At.seq ?_
  refine At.region ?_
  refine AtL.move (.inl rfl) rfl rfl ?_
  refine AtL.indexArr (a := ⟨2, 0, none⟩) ((l.getD 0 0).toNat) Tryd.underlying144 tf_sz5 (.inl rfl) rfl rfl rfl rfl (by omega) ?_
  refine AtL.load (v := .int .u8 68) tf_flat5 (.inl rfl) rfl rfl (T.one (l.getD 0 0) hx) ?_
  refine AtL.assign (.inl rfl) rfl rfl ?_
  refine AtL.done ?_
  refine At.seq ?_
  refine At.seq ?_
  refine At.region ?_
  refine AtL.move (.inl rfl) rfl rfl ?_
  refine AtL.geq (.inl rfl) rfl rfl rfl ?_
  refine AtL.done ?_
  refine At.condF rfl ?_
  refine At.skip ?_
  refine At.seq ?_
  refine At.region ?_
  refine AtL.move (.inl rfl) rfl rfl ?_
  refine AtL.band (z := 4) (.inl rfl) rfl rfl rfl (by decide) ?_
  refine AtL.convInt (z := 4) Tryd.underlying5 Tryd.underlying3 (.inl rfl) rfl rfl (by decide) ?_
  refine AtL.assign (.inl rfl) rfl rfl ?_
  refine AtL.done ?_
  refine At.seq ?_
  refine At.region ?_
  refine AtL.move (.inl rfl) rfl rfl ?_
  refine AtL.shr (z := 4) (.inl rfl) rfl rfl rfl (by decide) (by decide) ?_
  refine AtL.indexArr (a := ⟨3, 0, none⟩) 4 Tryd.underlying213 tf_sz212 (.inl rfl) rfl rfl rfl rfl (by omega) ?_
  refine AtL.loadN (cs := [.int .u8 128, .int .u8 143]) tf_agg212 (.inl rfl) rfl rfl rfl (T.two 4 (by decide) (by decide) (by decide)) ?_
  refine AtL.alloc tf_zero212 (cs := #[.int .u8 0, .int .u8 0]) rfl (.inl rfl) rfl ?_
  intro b1
  refine AtL.store (H' := [(b1, .cells #[.int .u8 128, .int .u8 143] 212 (0, 0))] :: H) 0 0 tf_sz212 (.inl rfl) rfl rfl rfl rfl rfl rfl rfl rfl rfl ?_
  refine AtL.done ?_
  refine At.seq ?_
  refine At.seq ?_
  refine At.region ?_
  refine AtL.move (.inl rfl) rfl rfl ?_
  refine AtL.move (.inl rfl) rfl rfl ?_
  refine AtL.lss (.inl rfl) rfl rfl rfl ?_
  refine AtL.done ?_
  refine At.cond rfl ?_ ?_
  · intro hc3
    have hc3 : (l.length : Int) < 4 := of_decide_eq_true hc3
    refine At.seq ?_
    refine At.region ?_
    refine AtL.assign (.inl rfl) rfl rfl ?_
    refine AtL.assign (.inl rfl) rfl rfl ?_
    refine AtL.done ?_
    refine At.pick (H' := H) [] 1 rfl rfl ?_
    exact At.ret Tryd.func189 rfl rfl (⟨_, 1, rfl, ⟨by omega, by omega, fun i h1 h2 => by omega, .inl rfl⟩, rfl⟩)
  · intro hc3
    have hc3 : ¬ ((l.length : Int) < 4) := of_decide_eq_false hc3
    refine At.skip ?_
    refine At.seq ?_
    refine At.region ?_
    refine AtL.move (.inl rfl) rfl rfl ?_
    refine AtL.indexL 1 (Rd.skip 1 h) Tryd.underlying25 tf_sz5 (.inl rfl) rfl rfl rfl rfl (by omega) ?_
    refine AtL.load (v := .int .u8 ((l.getD 1 0).toNat : Int)) tf_flat5 (.inl rfl) rfl rfl (Rd.cell0 (Rd.skip 1 h) (getD_some 0 (by omega)) rfl) ?_
    refine AtL.assign (.inl rfl) rfl rfl ?_
    refine AtL.done ?_
    refine At.seq ?_
    refine At.seq ?_
    refine At.region ?_
    refine AtL.move (.inl rfl) rfl rfl ?_
    refine AtL.fieldAddrB tf_fo212_0 (.inl rfl) rfl rfl rfl ?_
    refine AtL.load tf_flat5 (.inl rfl) rfl rfl (Cell.own 0 0 rfl rfl rfl) ?_
    refine AtL.lss (.inl rfl) rfl rfl rfl ?_
    refine AtL.move (.inl rfl) rfl rfl ?_
    refine AtL.join 5 (E' := [(60, .bool (decide ((((l.getD 1 0).toNat : Int) < 128) ∨ (143 < ((l.getD 1 0).toNat : Int))))), (0, .slice A l.length C), (5, .int .u8 ((l.getD 0 0).toNat : Int)), (8, .int .i64 4), (10, .int .u8 ((l.getD 1 0).toNat : Int))]) (H' := [(b1, .cells #[.int .u8 128, .int .u8 143] 212 (0, 0))] :: H) (fun J => ?_) ?_
    · refine AtL.split (t := 55) rfl ?_ ?_
      · intro hs55
        have hs55 : ((l.getD 1 0).toNat : Int) < 128 := of_decide_eq_true hs55
        refine AtL.skipped rfl rfl rfl rfl rfl rfl ?_
        refine AtL.skipped rfl rfl rfl rfl rfl rfl ?_
        refine AtL.skipped rfl rfl rfl rfl rfl rfl ?_
        refine AtL.skipped rfl rfl rfl rfl rfl rfl ?_
        refine AtL.pickT (.inl rfl) rfl rfl rfl ?_
        exact J _ (by exact ⟨(boolIs (by clear J; first | (simp [hs55]; done) | (simp_all; done) | grind)), rfl, rfl, rfl, rfl, trivial⟩)
      · intro hs55
        have hs55 : ¬ (((l.getD 1 0).toNat : Int) < 128) := of_decide_eq_false hs55
        refine AtL.fieldAddrB tf_fo212_1 (.inr ⟨_, _, _, rfl, rfl, rfl, rfl⟩) rfl rfl rfl ?_
        refine AtL.load tf_flat5 (.inr ⟨_, _, _, rfl, rfl, rfl, rfl⟩) rfl rfl (Cell.own 0 0 rfl rfl rfl) ?_
        refine AtL.move (.inr ⟨_, _, _, rfl, rfl, rfl, rfl⟩) rfl rfl ?_
        refine AtL.lss (.inr ⟨_, _, _, rfl, rfl, rfl, rfl⟩) rfl rfl rfl ?_
        refine AtL.pickF (.inl rfl) rfl rfl rfl ?_
        exact J _ (by exact ⟨(boolIs (by clear J; first | (simp [hs55]; done) | (simp_all; done) | grind)), rfl, rfl, rfl, rfl, trivial⟩)
    · skip
      refine AtL.done ?_
      refine At.cond rfl ?_ ?_
      · intro hc4
        have hc4 : (((l.getD 1 0).toNat : Int) < 128) ∨ (143 < ((l.getD 1 0).toNat : Int)) := of_decide_eq_true hc4
        refine At.seq ?_
        refine At.region ?_
        refine AtL.assign (.inl rfl) rfl rfl ?_
        refine AtL.assign (.inl rfl) rfl rfl ?_
        refine AtL.done ?_
        refine At.pick (H' := H) [] 1 rfl rfl ?_
        exact At.ret Tryd.func189 rfl rfl (⟨_, 1, rfl, ⟨by omega, by omega, fun i h1 h2 => by omega, .inl rfl⟩, rfl⟩)
      · intro hc4
        have hc4 : ¬ ((((l.getD 1 0).toNat : Int) < 128) ∨ (143 < ((l.getD 1 0).toNat : Int))) := of_decide_eq_false hc4
        refine At.skip ?_
        refine At.seq ?_
        refine At.seq ?_
        refine At.region ?_
        refine AtL.move (.inl rfl) rfl rfl ?_
        refine AtL.leq (.inl rfl) rfl rfl rfl ?_
        refine AtL.done ?_
        refine At.condF rfl ?_
        refine At.skip ?_
        refine At.seq ?_
        refine At.region ?_
        refine AtL.move (.inl rfl) rfl rfl ?_
        refine AtL.indexL 2 (Rd.skip 1 h) Tryd.underlying25 tf_sz5 (.inl rfl) rfl rfl rfl rfl (by omega) ?_
        refine AtL.load (v := .int .u8 ((l.getD 2 0).toNat : Int)) tf_flat5 (.inl rfl) rfl rfl (Rd.cell0 (Rd.skip 1 h) (getD_some 0 (by omega)) rfl) ?_
        refine AtL.assign (.inl rfl) rfl rfl ?_
        refine AtL.done ?_
        refine At.seq ?_
        refine At.seq ?_
        refine At.region ?_
        refine AtL.move (.inl rfl) rfl rfl ?_
        refine AtL.lss (.inl rfl) rfl rfl rfl ?_
        refine AtL.move (.inl rfl) rfl rfl ?_
        refine AtL.join 3 (E' := [(79, .bool (decide ((((l.getD 2 0).toNat : Int) < 128) ∨ (191 < ((l.getD 2 0).toNat : Int))))), (0, .slice A l.length C), (5, .int .u8 ((l.getD 0 0).toNat : Int)), (8, .int .i64 4), (10, .int .u8 ((l.getD 1 0).toNat : Int)), (11, .int .u8 ((l.getD 2 0).toNat : Int))]) (H' := [(b1, .cells #[.int .u8 128, .int .u8 143] 212 (0, 0))] :: H) (fun J => ?_) ?_
        · refine AtL.split (t := 76) rfl ?_ ?_
          · intro hs76
            have hs76 : ((l.getD 2 0).toNat : Int) < 128 := of_decide_eq_true hs76
            refine AtL.skipped rfl rfl rfl rfl rfl rfl ?_
            refine AtL.skipped rfl rfl rfl rfl rfl rfl ?_
            refine AtL.pickT (.inl rfl) rfl rfl rfl ?_
            exact J _ (by exact ⟨(boolIs (by clear J; first | (simp [hs76]; done) | (simp_all; done) | grind)), rfl, rfl, rfl, rfl, rfl, trivial⟩)
          · intro hs76
            have hs76 : ¬ (((l.getD 2 0).toNat : Int) < 128) := of_decide_eq_false hs76
            refine AtL.move (.inr ⟨_, _, _, rfl, rfl, rfl, rfl⟩) rfl rfl ?_
            refine AtL.lss (.inr ⟨_, _, _, rfl, rfl, rfl, rfl⟩) rfl rfl rfl ?_
            refine AtL.pickF (.inl rfl) rfl rfl rfl ?_
            exact J _ (by exact ⟨(boolIs (by clear J; first | (simp [hs76]; done) | (simp_all; done) | grind)), rfl, rfl, rfl, rfl, rfl, trivial⟩)
        · skip
          refine AtL.done ?_
          refine At.cond rfl ?_ ?_
          · intro hc6
            have hc6 : (((l.getD 2 0).toNat : Int) < 128) ∨ (191 < ((l.getD 2 0).toNat : Int)) := of_decide_eq_true hc6
            refine At.seq ?_
            refine At.region ?_
            refine AtL.assign (.inl rfl) rfl rfl ?_
            refine AtL.assign (.inl rfl) rfl rfl ?_
            refine AtL.done ?_
            refine At.pick (H' := H) [] 1 rfl rfl ?_
            exact At.ret Tryd.func189 rfl rfl (⟨_, 1, rfl, ⟨by omega, by omega, fun i h1 h2 => by omega, .inl rfl⟩, rfl⟩)
          · intro hc6
            have hc6 : ¬ ((((l.getD 2 0).toNat : Int) < 128) ∨ (191 < ((l.getD 2 0).toNat : Int))) := of_decide_eq_false hc6
            refine At.skip ?_
            refine At.seq ?_
            refine At.seq ?_
            refine At.region ?_
            refine AtL.move (.inl rfl) rfl rfl ?_
            refine AtL.leq (.inl rfl) rfl rfl rfl ?_
            refine AtL.done ?_
            refine At.condF rfl ?_
            refine At.skip ?_
            refine At.seq ?_
            refine At.region ?_
            refine AtL.move (.inl rfl) rfl rfl ?_
            refine AtL.indexL 3 (Rd.skip 1 h) Tryd.underlying25 tf_sz5 (.inl rfl) rfl rfl rfl rfl (by omega) ?_
            refine AtL.load (v := .int .u8 ((l.getD 3 0).toNat : Int)) tf_flat5 (.inl rfl) rfl rfl (Rd.cell0 (Rd.skip 1 h) (getD_some 0 (by omega)) rfl) ?_
            refine AtL.assign (.inl rfl) rfl rfl ?_
            refine AtL.done ?_
            refine At.seq ?_
            refine At.seq ?_
            refine At.region ?_
            refine AtL.move (.inl rfl) rfl rfl ?_
            refine AtL.lss (.inl rfl) rfl rfl rfl ?_
            refine AtL.move (.inl rfl) rfl rfl ?_
            refine AtL.join 3 (E' := [(103, .bool (decide ((((l.getD 3 0).toNat : Int) < 128) ∨ (191 < ((l.getD 3 0).toNat : Int))))), (5, .int .u8 ((l.getD 0 0).toNat : Int)), (10, .int .u8 ((l.getD 1 0).toNat : Int)), (11, .int .u8 ((l.getD 2 0).toNat : Int)), (12, .int .u8 ((l.getD 3 0).toNat : Int))]) (H' := [(b1, .cells #[.int .u8 128, .int .u8 143] 212 (0, 0))] :: H) (fun J => ?_) ?_
            · refine AtL.split (t := 100) rfl ?_ ?_
              · intro hs100
                have hs100 : ((l.getD 3 0).toNat : Int) < 128 := of_decide_eq_true hs100
                refine AtL.skipped rfl rfl rfl rfl rfl rfl ?_
                refine AtL.skipped rfl rfl rfl rfl rfl rfl ?_
                refine AtL.pickT (.inl rfl) rfl rfl rfl ?_
                exact J _ (by exact ⟨(boolIs (by clear J; first | (simp [hs100]; done) | (simp_all; done) | grind)), rfl, rfl, rfl, rfl, trivial⟩)
              · intro hs100
                have hs100 : ¬ (((l.getD 3 0).toNat : Int) < 128) := of_decide_eq_false hs100
                refine AtL.move (.inr ⟨_, _, _, rfl, rfl, rfl, rfl⟩) rfl rfl ?_
                refine AtL.lss (.inr ⟨_, _, _, rfl, rfl, rfl, rfl⟩) rfl rfl rfl ?_
                refine AtL.pickF (.inl rfl) rfl rfl rfl ?_
                exact J _ (by exact ⟨(boolIs (by clear J; first | (simp [hs100]; done) | (simp_all; done) | grind)), rfl, rfl, rfl, rfl, trivial⟩)
            · skip
              refine AtL.done ?_
              refine At.cond rfl ?_ ?_
              · intro hc8
                have hc8 : (((l.getD 3 0).toNat : Int) < 128) ∨ (191 < ((l.getD 3 0).toNat : Int)) := of_decide_eq_true hc8
                refine At.seq ?_
                refine At.region ?_
                refine AtL.assign (.inl rfl) rfl rfl ?_
                refine AtL.assign (.inl rfl) rfl rfl ?_
                refine AtL.done ?_
                refine At.pick (H' := H) [] 1 rfl rfl ?_
                exact At.ret Tryd.func189 rfl rfl (⟨_, 1, rfl, ⟨by omega, by omega, fun i h1 h2 => by omega, .inl rfl⟩, rfl⟩)
              · intro hc8
                have hc8 : ¬ ((((l.getD 3 0).toNat : Int) < 128) ∨ (191 < ((l.getD 3 0).toNat : Int))) := of_decide_eq_false hc8
                refine At.skip ?_
                refine At.seq ?_
                refine At.region ?_
                refine AtL.move (.inl rfl) rfl rfl ?_
                refine AtL.band (z := ((l.getD 0 0).toNat : Int) % 8) (.inl rfl) rfl rfl rfl (and8 3 (by decide) (by omega) (by omega)) ?_
                refine AtL.convInt (z := ((l.getD 0 0).toNat : Int) % 8) Tryd.underlying5 Tryd.underlying21 (.inl rfl) rfl rfl (w32i (by omega) (by omega)) ?_
                refine AtL.shl (z := (((l.getD 0 0).toNat : Int) % 8) * 262144) (.inl rfl) rfl rfl rfl (by omega) (shl_eq32 _ _ 18 rfl (by decide) _ (by decide) (by omega) (by omega)) ?_
                refine AtL.move (.inl rfl) rfl rfl ?_
                refine AtL.band (z := ((l.getD 1 0).toNat : Int) % 64) (.inl rfl) rfl rfl rfl (and8 6 (by decide) (by omega) (by omega)) ?_
                refine AtL.convInt (z := ((l.getD 1 0).toNat : Int) % 64) Tryd.underlying5 Tryd.underlying21 (.inl rfl) rfl rfl (w32i (by omega) (by omega)) ?_
                refine AtL.shl (z := (((l.getD 1 0).toNat : Int) % 64) * 4096) (.inl rfl) rfl rfl rfl (by omega) (shl_eq32 _ _ 12 rfl (by decide) _ (by decide) (by omega) (by omega)) ?_
                obtain ⟨z2, hz2, hz2a, hz2b, hz2c⟩ := or32 (a := (((l.getD 0 0).toNat : Int) % 8) * 262144) (b := (((l.getD 1 0).toNat : Int) % 64) * 4096) 31 (by decide) (by omega) (by omega) (by omega) (by omega)
                refine AtL.bor (z := z2) (.inl rfl) rfl rfl rfl hz2 ?_
                refine AtL.move (.inl rfl) rfl rfl ?_
                refine AtL.band (z := ((l.getD 2 0).toNat : Int) % 64) (.inl rfl) rfl rfl rfl (and8 6 (by decide) (by omega) (by omega)) ?_
                refine AtL.convInt (z := ((l.getD 2 0).toNat : Int) % 64) Tryd.underlying5 Tryd.underlying21 (.inl rfl) rfl rfl (w32i (by omega) (by omega)) ?_
                refine AtL.shl (z := (((l.getD 2 0).toNat : Int) % 64) * 64) (.inl rfl) rfl rfl rfl (by omega) (shl_eq32 _ _ 6 rfl (by decide) _ (by decide) (by omega) (by omega)) ?_
                obtain ⟨z3, hz3, hz3a, hz3b, hz3c⟩ := or32 (a := z2) (b := (((l.getD 2 0).toNat : Int) % 64) * 64) 31 (by decide) (by omega) (by omega) (by omega) (by omega)
                refine AtL.bor (z := z3) (.inl rfl) rfl rfl rfl hz3 ?_
                refine AtL.move (.inl rfl) rfl rfl ?_
                refine AtL.band (z := ((l.getD 3 0).toNat : Int) % 64) (.inl rfl) rfl rfl rfl (and8 6 (by decide) (by omega) (by omega)) ?_
                refine AtL.convInt (z := ((l.getD 3 0).toNat : Int) % 64) Tryd.underlying5 Tryd.underlying21 (.inl rfl) rfl rfl (w32i (by omega) (by omega)) ?_
                obtain ⟨z4, hz4, hz4a, hz4b, hz4c⟩ := or32 (a := z3) (b := ((l.getD 3 0).toNat : Int) % 64) 31 (by decide) (by omega) (by omega) (by omega) (by omega)
                refine AtL.bor (z := z4) (.inl rfl) rfl rfl rfl hz4 ?_
                refine AtL.assign (.inl rfl) rfl rfl ?_
                refine AtL.assign (.inl rfl) rfl rfl ?_
                refine AtL.done ?_
                refine At.pick (H' := H) [] 1 rfl rfl ?_
                exact At.ret Tryd.func189 rfl rfl (⟨_, 4, rfl, ⟨by omega, by omega, fun i h1 h2 => (by rcases (show i = 1 ∨ i = 2 ∨ i = 3 by omega) with rfl | rfl | rfl <;> omega), .inr (.inr (.inr ⟨rfl, by omega, by omega⟩))⟩, rfl⟩)

theorem first_caseF : ∀ q : Fin 256, 128 ≤ q.val → Lib.firstT q.val = 241 ∨ (Lib.firstT q.val = 2 ∧ 194 ≤ q.val ∧ q.val < 224) ∨ (Lib.firstT q.val = 19 ∧ q.val = 224) ∨ (Lib.firstT q.val = 3 ∧ 225 ≤ q.val ∧ q.val < 240) ∨ (Lib.firstT q.val = 35 ∧ q.val = 237) ∨ (Lib.firstT q.val = 52 ∧ q.val = 240) ∨ (Lib.firstT q.val = 4 ∧ 241 ≤ q.val ∧ q.val < 244) ∨ (Lib.firstT q.val = 68 ∧ q.val = 244) := by
  decide +kernel
theorem first_case (b : Nat) (h : b < 256) (h128 : 128 ≤ b) : Lib.firstT b = 241 ∨ (Lib.firstT b = 2 ∧ 194 ≤ b ∧ b < 224) ∨ (Lib.firstT b = 19 ∧ b = 224) ∨ (Lib.firstT b = 3 ∧ 225 ≤ b ∧ b < 240) ∨ (Lib.firstT b = 35 ∧ b = 237) ∨ (Lib.firstT b = 52 ∧ b = 240) ∨ (Lib.firstT b = 4 ∧ 241 ≤ b ∧ b < 244) ∨ (Lib.firstT b = 68 ∧ b = 244) := first_caseF ⟨b, h⟩ h128
theorem slow_ok {w0 : World} {base : Nat} {H : List Seg} {A : Option Addr} {C : Nat} {l : List UInt8} (h : Rd tyB w0 base H A C l) (T : Tabs w0 base) (hl : l ≠ []) (h128 : 128 ≤ (l.getD 0 0).toNat) :
    SCalls Tryd.prog 189 [.slice A l.length C] w0 base H (fun v H' => ∃ (r : Int) (n : Nat), v = .tuple #[.int .i32 r, int (n : Int)] ∧ decOk l r n ∧ H' = H) := by
  rcases first_case _ (l.getD 0 0).toNat_lt h128 with hx | ⟨hx, hp⟩ | ⟨hx, hp⟩ | ⟨hx, hp⟩ | ⟨hx, hp⟩ | ⟨hx, hp⟩ | ⟨hx, hp⟩ | ⟨hx, hp⟩
  · exact slow_241 h T hl (by rw [hx]; rfl)
  · exact slow_2 h T hl (by rw [hx]; rfl) hp
  · exact slow_19 h T hl (by rw [hx]; rfl) hp
  · exact slow_3 h T hl (by rw [hx]; rfl) hp
  · exact slow_35 h T hl (by rw [hx]; rfl) hp
  · exact slow_52 h T hl (by rw [hx]; rfl) hp
  · exact slow_4 h T hl (by rw [hx]; rfl) hp
  · exact slow_68 h T hl (by rw [hx]; rfl) hp

set_option maxHeartbeats 400000 in
theorem decode_ok {w0 : World} {base : Nat} {H : List Seg} {A : Option Addr} {C : Nat} {l : List UInt8} (h : Rd tyB w0 base H A C l) (T : Tabs w0 base) (hl : l ≠ []) (h128 : 128 ≤ (l.getD 0 0).toNat) :
    SCalls Tryd.prog 165 [.slice A l.length C] w0 base (H) (fun v H' => ∃ (r : Int) (n : Nat), v = .tuple #[.int .i32 r, int (n : Int)] ∧ decOk l r n ∧ H' = H) := by
  have hpos := List.length_pos_iff.2 hl
  have hcap := h.cap
  have hle := h.le
  refine SCalls.of_walk (n := 22) Tryd.func165 rfl rfl rfl fun cs => ?_
  refine At.seq ?_
  refine At.region ?_
  refine AtL.assign (.inl rfl) rfl rfl ?_
  refine AtL.assign (.inl rfl) rfl rfl ?_
  refine AtL.done ?_
  refine At.seq ?_
  refine At.seq ?_
  refine At.region ?_
  refine AtL.move (.inl rfl) rfl rfl ?_
  refine AtL.lenL Tryd.underlying25 (.inl rfl) rfl rfl ?_
  refine AtL.move (.inl rfl) rfl rfl ?_
  refine AtL.done ?_
  refine At.block ?_
  refine At.unroll ?_
  refine At.seq ?_
  refine At.region ?_
  refine AtL.lss (.inl rfl) rfl rfl rfl ?_
  refine AtL.done ?_
  refine At.seq ?_
  refine At.condIs true rfl (decide_eq_true (by omega)) ?_
  refine At.skip ?_
  refine At.seq ?_
  refine At.block ?_
  refine At.seq ?_
  refine At.region ?_
  refine AtL.indexL 0 h Tryd.underlying25 tf_sz5 (.inl rfl) rfl rfl rfl rfl (by omega) ?_
  refine AtL.load (v := .int .u8 ((l.getD 0 0).toNat : Int)) tf_flat5 (.inl rfl) rfl rfl (Rd.cell0 h (getD_some 0 (by omega)) rfl) ?_
  refine AtL.assign (.inl rfl) rfl rfl ?_
  refine AtL.done ?_
  refine At.seq ?_
  refine At.seq ?_
  refine At.region ?_
  refine AtL.move (.inl rfl) rfl rfl ?_
  refine AtL.lss (.inl rfl) rfl rfl rfl ?_
  refine AtL.done ?_
  refine At.condIs false rfl (decide_eq_false (by omega)) ?_
  refine At.skip ?_
  refine At.exit rfl ?_
  refine At.seq ?_
  refine At.region ?_
  refine AtL.move (.inl rfl) rfl rfl ?_
  refine AtL.call tf_body189 (.inl rfl) rfl rfl (slow_ok (l := l) h T hl h128) ?_
  rintro _ _ ⟨r1, n2, rfl, hd3, hHq⟩
  obtain rfl := hHq.symm
  refine AtL.move (.inl rfl) rfl rfl ?_
  refine AtL.extract (.inl rfl) rfl rfl rfl ?_
  refine AtL.extract (.inl rfl) rfl rfl rfl ?_
  refine AtL.assign (.inl rfl) rfl rfl ?_
  refine AtL.assign (.inl rfl) rfl rfl ?_
  refine AtL.done ?_
  exact At.ret Tryd.func165 rfl rfl (⟨_, _, rfl, hd3, rfl⟩)

end Go.Proofs.YtlfkoimkojbghaaDoor
