/- The parts of the proof that this law needs, in the order of their texts: the logic of walks, the plain laws, the walks. -/
import Derived.Test.YtbfabhdfmoiabaaGreatDoorQDA
namespace Go.Proofs.YtbfabhdfmoiabaaGreatDoor
set_option maxRecDepth 100000
theorem tf_flat3 : flatB Tryz.prog 3 = true := by kernel_rfl
theorem tf_sz3 : sizeN Tryz.prog 3 1 = true := by kernel_rfl
theorem tf_flat4 : flatB Tryz.prog 4 = true := by kernel_rfl
theorem tf_sz4 : sizeN Tryz.prog 4 1 = true := by kernel_rfl
theorem tf_flat5 : flatB Tryz.prog 5 = true := by kernel_rfl
theorem tf_sz5 : sizeN Tryz.prog 5 1 = true := by kernel_rfl
theorem tf_zero5 : zeroV Tryz.prog 5 = some (.int .u8 0) := by kernel_rfl
theorem tf_flat22 : flatB Tryz.prog 22 = true := by kernel_rfl
theorem tf_sz22 : sizeN Tryz.prog 22 1 = true := by kernel_rfl
theorem tf_zero22 : zeroV Tryz.prog 22 = some (.slice none 0 0) := by kernel_rfl
theorem tf_el22 : ElemOk Tryz.prog 22 34 tyL (⟨none, 0, []⟩ : Bs) 24 := ElemOk.of Tryz.underlying22 (by kernel_rfl) (by kernel_rfl) rfl
theorem tf_sz24 : sizeN Tryz.prog 24 1 = true := by kernel_rfl
theorem tf_flat26 : flatB Tryz.prog 26 = true := by kernel_rfl
theorem tf_sz26 : sizeN Tryz.prog 26 1 = true := by kernel_rfl
theorem tf_zero26 : zeroV Tryz.prog 26 = some (.int .i64 0) := by kernel_rfl
theorem tf_flat32 : flatB Tryz.prog 32 = true := by kernel_rfl
theorem tf_sz32 : sizeN Tryz.prog 32 1 = true := by kernel_rfl
theorem tf_flat34 : flatB Tryz.prog 34 = true := by kernel_rfl
theorem tf_sz34 : sizeN Tryz.prog 34 1 = true := by kernel_rfl
theorem tf_zero34 : zeroV Tryz.prog 34 = some (.slice none 0 0) := by kernel_rfl
theorem tf_el34 : ElemOk Tryz.prog 34 5 tyB (0 : UInt8) 1 := ElemOk.of Tryz.underlying34 (by kernel_rfl) (by kernel_rfl) rfl
theorem tf_sz44 : sizeN Tryz.prog 44 7 = true := by kernel_rfl
theorem tf_zero44 : zeroV Tryz.prog 44 = some (.agg #[.int .i64 0, .int .i64 0, str [], str [], .int .i64 0, .slice none 0 0, .slice none 0 0]) := by kernel_rfl
theorem tf_lay44 : layOf Tryz.prog 44 = some ([(0, 1), (1, 1), (2, 4), (6, 1)], [.int .i64 0, .int .i64 0, str [], str [], .int .i64 0, .slice none 0 0, .slice none 0 0]) := by kernel_rfl
theorem tf_fo44_0 : fieldOff Tryz.prog 44 0 = some 0 := by kernel_rfl
theorem tf_fo44_1 : fieldOff Tryz.prog 44 1 = some 1 := by kernel_rfl
theorem tf_fo44_3 : fieldOff Tryz.prog 44 3 = some 6 := by kernel_rfl
theorem tf_flat62 : flatB Tryz.prog 62 = true := by kernel_rfl
theorem tf_lay64 : layOf Tryz.prog 64 = some ([(0, 1), (1, 1), (2, 1), (3, 1), (4, 1)], [.int .i64 0, .int .i64 0, .int .i64 0, .int .i64 0, .map none]) := by kernel_rfl
theorem tf_fo64_0 : fieldOff Tryz.prog 64 0 = some 0 := by kernel_rfl
theorem tf_fo64_2 : fieldOff Tryz.prog 64 2 = some 2 := by kernel_rfl
theorem tf_fo64_3 : fieldOff Tryz.prog 64 3 = some 3 := by kernel_rfl
theorem tf_fo64_4 : fieldOff Tryz.prog 64 4 = some 4 := by kernel_rfl
theorem tf_zero77 : zeroV Tryz.prog 77 = some (.nilIface) := by kernel_rfl
theorem tf_agg80 : aggN Tryz.prog 80 = some 8 := by kernel_rfl
theorem tf_lay80 : layOf Tryz.prog 80 = some ([(0, 1), (1, 1), (2, 1), (3, 1), (4, 1), (5, 1), (6, 1), (7, 1)], [.nilIface, .bool false, .int .i64 0, .int .i64 0, .int .i64 0, .slice none 0 0, .bool false, .bool false]) := by kernel_rfl
theorem tf_fo80_0 : fieldOff Tryz.prog 80 0 = some 0 := by kernel_rfl
theorem tf_fo80_1 : fieldOff Tryz.prog 80 1 = some 1 := by kernel_rfl
theorem tf_fo80_3 : fieldOff Tryz.prog 80 3 = some 3 := by kernel_rfl
theorem tf_fo80_4 : fieldOff Tryz.prog 80 4 = some 4 := by kernel_rfl
theorem tf_fo80_5 : fieldOff Tryz.prog 80 5 = some 5 := by kernel_rfl
theorem tf_fo80_6 : fieldOff Tryz.prog 80 6 = some 6 := by kernel_rfl
theorem tf_fo80_7 : fieldOff Tryz.prog 80 7 = some 7 := by kernel_rfl
theorem tf_lay83 : layOf Tryz.prog 83 = some ([(0, 1)], [.bool false]) := by kernel_rfl
theorem tf_fo83_0 : fieldOff Tryz.prog 83 0 = some 0 := by kernel_rfl
theorem tf_flat85 : flatB Tryz.prog 85 = true := by kernel_rfl
theorem tf_sz85 : sizeN Tryz.prog 85 1 = true := by kernel_rfl
theorem tf_zero85 : zeroV Tryz.prog 85 = some (.slice none 0 0) := by kernel_rfl
theorem tf_el85 : ElemOk Tryz.prog 85 5 tyB (0 : UInt8) 1 := ElemOk.of Tryz.underlying85 (by kernel_rfl) (by kernel_rfl) rfl
theorem tf_lay87 : layOf Tryz.prog 87 = some ([(0, 1), (1, 1), (2, 1), (3, 1), (4, 1), (5, 1)], [.slice none 0 0, .bool false, .bool false, .bool false, .bool false, .bool false]) := by kernel_rfl
theorem tf_fo87_0 : fieldOff Tryz.prog 87 0 = some 0 := by kernel_rfl
theorem tf_fo87_1 : fieldOff Tryz.prog 87 1 = some 1 := by kernel_rfl
theorem tf_fo87_2 : fieldOff Tryz.prog 87 2 = some 2 := by kernel_rfl
theorem tf_fo87_3 : fieldOff Tryz.prog 87 3 = some 3 := by kernel_rfl
theorem tf_fo87_4 : fieldOff Tryz.prog 87 4 = some 4 := by kernel_rfl
theorem tf_fo87_5 : fieldOff Tryz.prog 87 5 = some 5 := by kernel_rfl
theorem tf_flat103 : flatB Tryz.prog 103 = true := by kernel_rfl
theorem tf_lay108 : layOf Tryz.prog 108 = some ([(0, 8), (8, 1)], [.nilIface, .bool false, .int .i64 0, .int .i64 0, .int .i64 0, .slice none 0 0, .bool false, .bool false, .pointer none]) := by kernel_rfl
theorem tf_fo108_1 : fieldOff Tryz.prog 108 1 = some 8 := by kernel_rfl
theorem tf_lay116 : layOf Tryz.prog 116 = some ([(0, 8), (8, 1), (9, 1), (10, 1), (11, 1)], [.nilIface, .bool false, .int .i64 0, .int .i64 0, .int .i64 0, .slice none 0 0, .bool false, .bool false, .pointer none, .pointer none, .int .i64 0, .int .i64 0]) := by kernel_rfl
theorem tf_sz121 : sizeN Tryz.prog 121 1 = true := by kernel_rfl
theorem tf_fo123_0 : fieldOff Tryz.prog 123 0 = some 0 := by kernel_rfl
theorem tf_fo123_1 : fieldOff Tryz.prog 123 1 = some 1 := by kernel_rfl
theorem tf_fo123_2 : fieldOff Tryz.prog 123 2 = some 2 := by kernel_rfl
theorem tf_lay125 : layOf Tryz.prog 125 = some ([(0, 1), (1, 1), (2, 3), (5, 1)], [.int .i64 0, .bool false, .slice none 0 0, .int .i64 0, .int .i8 0, .int .i64 0]) := by kernel_rfl
theorem tf_fo125_0 : fieldOff Tryz.prog 125 0 = some 0 := by kernel_rfl
theorem tf_fo125_1 : fieldOff Tryz.prog 125 1 = some 1 := by kernel_rfl
theorem tf_fo125_2 : fieldOff Tryz.prog 125 2 = some 2 := by kernel_rfl
theorem tf_fo125_3 : fieldOff Tryz.prog 125 3 = some 5 := by kernel_rfl
theorem tf_lay128 : layOf Tryz.prog 128 = some ([(0, 1), (1, 1), (2, 1), (3, 1)], [.int .i64 0, .int .i64 0, .int .i64 0, .map none]) := by kernel_rfl
theorem tf_lay133 : layOf Tryz.prog 133 = some ([(0, 1), (1, 1), (2, 1), (3, 7), (10, 1), (11, 1), (12, 1)], [.bool false, .slice none 0 0, .nilFunc, .int .i64 0, str [], str [], .int .i64 0, .slice none 0 0, .slice none 0 0, .bool false, .int .i64 0, .int .i64 0, .slice none 0 0]) := by kernel_rfl
theorem tf_fo133_2 : fieldOff Tryz.prog 133 2 = some 2 := by kernel_rfl
theorem tf_agg282 : aggN Tryz.prog 282 = some 2 := by kernel_rfl
theorem tf_zero282 : zeroV Tryz.prog 282 = some (.agg #[.int .u8 0, .int .u8 0]) := by kernel_rfl
theorem tf_sz284 : sizeN Tryz.prog 284 2 = true := by kernel_rfl
theorem tf_agg284 : aggN Tryz.prog 284 = some 2 := by kernel_rfl
theorem tf_zero284 : zeroV Tryz.prog 284 = some (.agg #[.int .i64 0, .int .i64 0]) := by kernel_rfl
theorem tf_lay284 : layOf Tryz.prog 284 = some ([(0, 1), (1, 1)], [.int .i64 0, .int .i64 0]) := by kernel_rfl
theorem tf_fo284_0 : fieldOff Tryz.prog 284 0 = some 0 := by kernel_rfl
theorem tf_mixed : Tryz.prog.follows .mixedOrders = true := by kernel_rfl
theorem tf_body8 : Body Tryz.prog 8 := Body.of (by kernel_rfl)
theorem tf_body9 : Body Tryz.prog 9 := Body.of (by kernel_rfl)
theorem tf_body10 : Body Tryz.prog 10 := Body.of (by kernel_rfl)
theorem tf_body11 : Body Tryz.prog 11 := Body.of (by kernel_rfl)
theorem tf_body12 : Body Tryz.prog 12 := Body.of (by kernel_rfl)
theorem tf_body13 : Body Tryz.prog 13 := Body.of (by kernel_rfl)
theorem tf_body14 : Body Tryz.prog 14 := Body.of (by kernel_rfl)
theorem tf_body15 : Body Tryz.prog 15 := Body.of (by kernel_rfl)
theorem tf_body16 : Body Tryz.prog 16 := Body.of (by kernel_rfl)
theorem tf_body17 : Body Tryz.prog 17 := Body.of (by kernel_rfl)
theorem tf_body18 : Body Tryz.prog 18 := Body.of (by kernel_rfl)
theorem tf_body22 : Body Tryz.prog 22 := Body.of (by kernel_rfl)
theorem tf_body29 : Body Tryz.prog 29 := Body.of (by kernel_rfl)
theorem tf_body30 : Body Tryz.prog 30 := Body.of (by kernel_rfl)
theorem tf_body31 : Body Tryz.prog 31 := Body.of (by kernel_rfl)
theorem tf_body32 : Body Tryz.prog 32 := Body.of (by kernel_rfl)
theorem tf_body33 : Body Tryz.prog 33 := Body.of (by kernel_rfl)
theorem tf_body34 : Body Tryz.prog 34 := Body.of (by kernel_rfl)
theorem tf_body35 : Body Tryz.prog 35 := Body.of (by kernel_rfl)
theorem tf_body36 : Body Tryz.prog 36 := Body.of (by kernel_rfl)
theorem tf_body38 : Body Tryz.prog 38 := Body.of (by kernel_rfl)
theorem tf_body41 : Body Tryz.prog 41 := Body.of (by kernel_rfl)
theorem tf_body42 : Body Tryz.prog 42 := Body.of (by kernel_rfl)
theorem tf_body43 : Body Tryz.prog 43 := Body.of (by kernel_rfl)
theorem tf_body44 : Body Tryz.prog 44 := Body.of (by kernel_rfl)
theorem tf_body49 : Body Tryz.prog 49 := Body.of (by kernel_rfl)
theorem tf_body90 : Body Tryz.prog 90 := Body.of (by kernel_rfl)
theorem tf_body188 : Body Tryz.prog 188 := Body.of (by kernel_rfl)
theorem tf_body190 : Body Tryz.prog 190 := Body.of (by kernel_rfl)
theorem tf_body191 : Body Tryz.prog 191 := Body.of (by kernel_rfl)
theorem tf_body194 : Body Tryz.prog 194 := Body.of (by kernel_rfl)
theorem tf_body196 : Body Tryz.prog 196 := Body.of (by kernel_rfl)
theorem tf_body197 : Body Tryz.prog 197 := Body.of (by kernel_rfl)
theorem tf_body198 : Body Tryz.prog 198 := Body.of (by kernel_rfl)
theorem tf_body199 : Body Tryz.prog 199 := Body.of (by kernel_rfl)
theorem tf_body200 : Body Tryz.prog 200 := Body.of (by kernel_rfl)
theorem tf_body201 : Body Tryz.prog 201 := Body.of (by kernel_rfl)
theorem tf_body202 : Body Tryz.prog 202 := Body.of (by kernel_rfl)
theorem tf_body203 : Body Tryz.prog 203 := Body.of (by kernel_rfl)
theorem tf_body204 : Body Tryz.prog 204 := Body.of (by kernel_rfl)
theorem tf_body205 : Body Tryz.prog 205 := Body.of (by kernel_rfl)
theorem tf_body206 : Body Tryz.prog 206 := Body.of (by kernel_rfl)
theorem tf_body207 : Body Tryz.prog 207 := Body.of (by kernel_rfl)
theorem tf_body208 : Body Tryz.prog 208 := Body.of (by kernel_rfl)
theorem tf_body209 : Body Tryz.prog 209 := Body.of (by kernel_rfl)
theorem tf_body210 : Body Tryz.prog 210 := Body.of (by kernel_rfl)
theorem tf_body211 : Body Tryz.prog 211 := Body.of (by kernel_rfl)
theorem tf_body212 : Body Tryz.prog 212 := Body.of (by kernel_rfl)
theorem tf_body213 : Body Tryz.prog 213 := Body.of (by kernel_rfl)
theorem tf_body216 : Body Tryz.prog 216 := Body.of (by kernel_rfl)
theorem tf_body217 : Body Tryz.prog 217 := Body.of (by kernel_rfl)
theorem tf_body218 : Body Tryz.prog 218 := Body.of (by kernel_rfl)
theorem tf_body219 : Body Tryz.prog 219 := Body.of (by kernel_rfl)
theorem tf_body220 : Body Tryz.prog 220 := Body.of (by kernel_rfl)
theorem tf_body221 : Body Tryz.prog 221 := Body.of (by kernel_rfl)
theorem tf_body222 : Body Tryz.prog 222 := Body.of (by kernel_rfl)
theorem tf_body223 : Body Tryz.prog 223 := Body.of (by kernel_rfl)
theorem tf_body224 : Body Tryz.prog 224 := Body.of (by kernel_rfl)
theorem tf_body225 : Body Tryz.prog 225 := Body.of (by kernel_rfl)
theorem tf_body226 : Body Tryz.prog 226 := Body.of (by kernel_rfl)
theorem tf_body227 : Body Tryz.prog 227 := Body.of (by kernel_rfl)
theorem tf_body228 : Body Tryz.prog 228 := Body.of (by kernel_rfl)
theorem tf_body229 : Body Tryz.prog 229 := Body.of (by kernel_rfl)
theorem tf_body230 : Body Tryz.prog 230 := Body.of (by kernel_rfl)
theorem tf_body232 : Body Tryz.prog 232 := Body.of (by kernel_rfl)
theorem tf_body235 : Body Tryz.prog 235 := Body.of (by kernel_rfl)
theorem tf_body236 : Body Tryz.prog 236 := Body.of (by kernel_rfl)
end Go.Proofs.YtbfabhdfmoiabaaGreatDoor
namespace Go.Proofs.YtbfabhdfmoiabaaGreatDoor
set_option linter.unusedVariables false
set_option linter.unusedSimpArgs false
set_option maxRecDepth 100000
def pick (x n : Int) : Int := if n < 1 then 0 else x % n
theorem tmod_neg {x n : Int} (hn : 1 ≤ n) (h : x.tmod n < 0) : x.tmod n + n = x % n := by
  have h1 := Int.emod_nonneg x (show n ≠ 0 by omega)
  have h2 := Int.emod_lt_of_pos x (show 0 < n by omega)
  rw [Int.tmod_eq_emod] at h ⊢
  split at h <;> rename_i hc
  · omega
  · rw [if_neg hc]; omega
theorem tmod_pos {x n : Int} (hn : 1 ≤ n) (h : 0 ≤ x.tmod n) : x.tmod n = x % n := by
  have h1 := Int.emod_nonneg x (show n ≠ 0 by omega)
  have h2 := Int.emod_lt_of_pos x (show 0 < n by omega)
  rw [Int.tmod_eq_emod] at h ⊢
  split at h <;> rename_i hc
  · rw [if_pos hc]; omega
  · omega
theorem tmod_bd {x n : Int} (hn : 1 ≤ n) : - n < x.tmod n ∧ x.tmod n < n := by
  have h1 := Int.emod_nonneg x (show n ≠ 0 by omega)
  have h2 := Int.emod_lt_of_pos x (show 0 < n by omega)
  rw [Int.tmod_eq_emod]
  split <;> omega
set_option maxHeartbeats 400000 in
theorem same_ok {w0 : World} {base : Nat} {H : List Seg} {A A2 : Option Addr} {C C2 : Nat} {l l2 : List UInt8} (h : Rd tyB w0 base H A C l) (h2 : Rd tyB w0 base H A2 C2 l2) :
    SCalls Tryz.prog 18 [.slice A l.length C, .slice A2 l2.length C2] w0 base (H) (fun v H' => v = .bool (decide (l = l2)) ∧ H' = H) := by
  refine SCalls.of_walk (n := 10) Tryz.func18 rfl rfl rfl fun cs => ?_
  refine At.seq ?_
  refine At.region ?_
  refine AtL.assign (.inl rfl) rfl rfl ?_
  refine AtL.done ?_
  refine At.seq ?_
  refine At.region ?_
  refine AtL.move (.inl rfl) rfl rfl ?_
  refine AtL.strOf h Tryz.underlying34 Tryz.underlying5 Tryz.underlying9 (.inl rfl) rfl rfl ?_
  refine AtL.move (.inl rfl) rfl rfl ?_
  refine AtL.strOf h2 Tryz.underlying34 Tryz.underlying5 Tryz.underlying9 (.inl rfl) rfl rfl ?_
  refine AtL.eqs (a := l) (b := l2) (.inl rfl) rfl rfl rfl ?_
  refine AtL.assign (.inl rfl) rfl rfl ?_
  refine AtL.done ?_
  exact At.ret Tryz.func18 rfl rfl (⟨rfl, rfl⟩)
set_option maxHeartbeats 400000 in
theorem pick_ok {w0 : World} {base : Nat} {H : List Seg} (x n : Int) (hn : n ≤ 4611686018427387904) :
    SCalls Tryz.prog 13 [.int .i64 x, .int .i64 n] w0 base (H) (fun v H' => v = int (pick x n) ∧ H' = H) := by
  refine SCalls.of_walk (n := 16) Tryz.func13 rfl rfl rfl fun cs => ?_
  refine At.seq ?_
  refine At.region ?_
  refine AtL.assign (.inl rfl) rfl rfl ?_
  refine AtL.done ?_
  refine At.seq ?_
  refine At.seq ?_
  refine At.region ?_
  refine AtL.move (.inl rfl) rfl rfl ?_
  refine AtL.lss (.inl rfl) rfl rfl rfl ?_
  refine AtL.done ?_
  refine At.cond rfl ?_ ?_
  · intro hc1
    have hc1 : (n : Int) < 1 := of_decide_eq_true hc1
    refine At.seq ?_
    refine At.region ?_
    refine AtL.assign (.inl rfl) rfl rfl ?_
    refine AtL.done ?_
    exact At.ret Tryz.func13 rfl rfl (⟨congrArg int (by rw [pick, if_pos hc1]), rfl⟩)
  · intro hc1
    have hc1 : ¬ ((n : Int) < 1) := of_decide_eq_false hc1
    refine At.skip ?_
    refine At.seq ?_
    refine At.region ?_
    refine AtL.move (.inl rfl) rfl rfl ?_
    refine AtL.move (.inl rfl) rfl rfl ?_
    refine AtL.rem (z := x.tmod n) (.inl rfl) rfl rfl rfl (by omega) rfl ?_
    refine AtL.assign (.inl rfl) rfl rfl ?_
    refine AtL.done ?_
    have hb := tmod_bd (x := x) (n := n) (by omega)
    refine At.seq ?_
    refine At.seq ?_
    refine At.region ?_
    refine AtL.move (.inl rfl) rfl rfl ?_
    refine AtL.lss (.inl rfl) rfl rfl rfl ?_
    refine AtL.done ?_
    refine At.cond rfl ?_ ?_
    · intro hc2
      have hc2 : (x.tmod n : Int) < 0 := of_decide_eq_true hc2
      refine At.region ?_
      refine AtL.move (.inl rfl) rfl rfl ?_
      refine AtL.move (.inl rfl) rfl rfl ?_
      refine AtL.add (z := (x.tmod n) + n) (.inl rfl) rfl rfl rfl (w64 (by omega) (by omega)) ?_
      refine AtL.assign (.inl rfl) rfl rfl ?_
      refine AtL.done ?_
      refine At.seq ?_
      refine At.region ?_
      refine AtL.move (.inl rfl) rfl rfl ?_
      refine AtL.assign (.inl rfl) rfl rfl ?_
      refine AtL.done ?_
      exact At.ret Tryz.func13 rfl rfl (⟨congrArg int (by rw [tmod_neg (by omega) hc2, pick, if_neg hc1]), rfl⟩)
    · intro hc2
      have hc2 : ¬ ((x.tmod n : Int) < 0) := of_decide_eq_false hc2
      refine At.skip ?_
      refine At.seq ?_
      refine At.region ?_
      refine AtL.move (.inl rfl) rfl rfl ?_
      refine AtL.assign (.inl rfl) rfl rfl ?_
      refine AtL.done ?_
      exact At.ret Tryz.func13 rfl rfl (⟨congrArg int (by rw [tmod_pos (by omega) (by omega), pick, if_neg hc1]), rfl⟩)
end Go.Proofs.YtbfabhdfmoiabaaGreatDoor
namespace Go.Proofs.YtbfabhdfmoiabaaGreatDoor
set_option linter.unusedVariables false
set_option linter.unusedSimpArgs false
set_option maxRecDepth 100000
theorem ofInt_mod (a : Int) : UInt8.ofInt (a % 256) = UInt8.ofInt a := by
  apply UInt8.toNat_inj.1
  rw [ofInt_toNat, ofInt_toNat, Int.emod_emod_of_dvd _ (Int.dvd_refl _)]
set_option maxHeartbeats 400000 in
theorem put2_ok {w0 : World} {base : Nat} {H : List Seg} (n : Int) (h0 : 0 ≤ n) (h1 : n ≤ 65535) :
    SCalls Tryz.prog 208 [.int .i64 n] w0 base (H) (fun v H' => ∃ A' C' s', Own tyB 5 A' C' [UInt8.ofInt (n / 256), UInt8.ofInt n] s' ∧ v = .tuple #[.slice A' 2 C', int 0] ∧ H' = s' :: H) := by
  refine SCalls.of_walk (n := 36) Tryz.func208 rfl rfl rfl fun cs => ?_
  refine At.seq ?_
  refine At.region ?_
  refine AtL.assign (.inl rfl) rfl rfl ?_
  refine AtL.assign (.inl rfl) rfl rfl ?_
  refine AtL.done ?_
  refine At.seq ?_
  refine At.region ?_
  refine AtL.alloc tf_zero282 (cs := #[.int .u8 0, .int .u8 0]) rfl (.inl rfl) rfl ?_
  intro b1
  refine AtL.done ?_
  refine At.seq ?_
  refine At.seq ?_
  refine At.region ?_
  refine AtL.move (.inl rfl) rfl rfl ?_
  refine AtL.lss (.inl rfl) rfl rfl rfl ?_
  refine AtL.move (.inl rfl) rfl rfl ?_
  refine AtL.join 7 (E' := [(16, .bool (!(decide ((n / 65536 : Int) = 0)))), (0, .int .i64 n), (4, .pointer (some ⟨b1, 0, none⟩))]) (H' := [(b1, .cells #[.int .u8 0, .int .u8 0] 282 (0, 0))] :: H) (fun J => ?_) ?_
  · refine AtL.split (t := 9) rfl ?_ ?_
    · intro hs9
      have hs9 : (n : Int) < 0 := of_decide_eq_true hs9
      exact absurd hs9 (by omega)
    · intro hs9
      have hs9 : ¬ ((n : Int) < 0) := of_decide_eq_false hs9
      refine AtL.move (.inr ⟨_, _, _, rfl, rfl, rfl, rfl⟩) rfl rfl ?_
      refine AtL.loadN (cs := [.int .u8 0, .int .u8 0]) tf_agg282 (.inr ⟨_, _, _, rfl, rfl, rfl, rfl⟩) rfl rfl rfl (cellsOwn 0 0 0 rfl rfl rfl) ?_
      refine AtL.move (.inr ⟨_, _, _, rfl, rfl, rfl, rfl⟩) rfl rfl ?_
      refine AtL.mul (z := 16) (.inr ⟨_, _, _, rfl, rfl, rfl, rfl⟩) rfl rfl rfl (by decide) ?_
      refine AtL.shr (z := n / 65536) (.inr ⟨_, _, _, rfl, rfl, rfl, rfl⟩) rfl rfl rfl (by omega) (shr_eq _ _ 16 rfl (by decide) _ (by decide)) ?_
      refine AtL.nei (.inr ⟨_, _, _, rfl, rfl, rfl, rfl⟩) rfl rfl rfl ?_
      refine AtL.pickF (.inl rfl) rfl rfl rfl ?_
      exact J _ (by exact ⟨(boolIs (by clear J; first | (simp [hs9]; done) | (simp_all; done) | grind)), rfl, rfl, trivial⟩)
  · skip
    refine AtL.done ?_
    refine At.condIs false rfl (by simp; omega) ?_
    refine At.skip ?_
    refine At.seq ?_
    refine At.region ?_
    refine AtL.assign (.inl rfl) rfl rfl ?_
    refine AtL.done ?_
    refine At.seq ?_
    refine At.seq ?_
    refine At.region ?_
    refine AtL.loadN (cs := [.int .u8 0, .int .u8 0]) tf_agg282 (.inl rfl) rfl rfl rfl (cellsOwn 0 0 0 rfl rfl rfl) ?_
    refine AtL.move (.inl rfl) rfl rfl ?_
    refine AtL.move (.inl rfl) rfl rfl ?_
    refine AtL.done ?_
    refine At.block ?_
    refine At.unroll ?_
    refine At.seq ?_
    refine At.region ?_
    refine AtL.lss (.inl rfl) rfl rfl rfl ?_
    refine AtL.done ?_
    refine At.seq ?_
    refine At.condT rfl ?_
    refine At.skip ?_
    refine At.seq ?_
    refine At.block ?_
    refine At.seq ?_
    refine At.region ?_
    refine AtL.move (.inl rfl) rfl rfl ?_
    refine AtL.assign (.inl rfl) rfl rfl ?_
    refine AtL.done ?_
    refine At.region ?_
    refine AtL.move (.inl rfl) rfl rfl ?_
    refine AtL.move (.inl rfl) rfl rfl ?_
    refine AtL.loadN (cs := [.int .u8 0, .int .u8 0]) tf_agg282 (.inl rfl) rfl rfl rfl (cellsOwn 0 0 0 rfl rfl rfl) ?_
    refine AtL.move (.inl rfl) rfl rfl ?_
    refine AtL.sub (z := 1) (.inl rfl) rfl rfl rfl (by decide) ?_
    refine AtL.move (.inl rfl) rfl rfl ?_
    refine AtL.sub (z := 1) (.inl rfl) rfl rfl rfl (by decide) ?_
    refine AtL.mul (z := 8) (.inl rfl) rfl rfl rfl (by decide) ?_
    refine AtL.shr (z := n / 256) (.inl rfl) rfl rfl rfl (by omega) (shr_eq _ _ 8 rfl (by decide) _ (by decide)) ?_
    refine AtL.convInt (z := ((UInt8.ofInt (n / 256)).toNat : Int)) Tryz.underlying3 Tryz.underlying5 (.inl rfl) rfl rfl (u8_conv _) ?_
    refine AtL.buildSlice (cs := [.int .u8 ((UInt8.ofInt (n / 256)).toNat : Int)]) Tryz.underlying34 tf_zero5 tf_sz5 rfl rfl (.inl rfl) rfl rfl rfl ?_
    intro b2
    refine AtL.own1 tyB (l := ([(UInt8.ofInt (n / 256))] : List UInt8)) rfl rfl (by first | decide | simp) ?_
    intro s3 o4
    refine AtL.nil ?_
    refine AtL.append (l := []) (news := [(UInt8.ofInt (n / 256))]) 0 tf_el34 rfl (Own.nil tyB 5) (o4.rd (i := 1) rfl) (by first | omega | (simp only [List.length_append, List.length_cons, List.length_nil]; omega) | (simp; done) | (simp; omega)) (.inl rfl) rfl rfl rfl ?_
    intro A5 C6 s7 o8
    refine AtL.assign (.inl rfl) rfl rfl ?_
    refine AtL.done ?_
    refine At.inBlock ?_
    refine At.region ?_
    refine AtL.add (z := 1) (.inl rfl) rfl rfl rfl (by decide) ?_
    refine AtL.move (.inl rfl) rfl rfl ?_
    refine AtL.done ?_
    refine At.again ?_
    refine At.seq ?_
    refine At.region ?_
    refine AtL.lss (.inl rfl) rfl rfl rfl ?_
    refine AtL.done ?_
    refine At.seq ?_
    refine At.condT rfl ?_
    refine At.skip ?_
    refine At.seq ?_
    refine At.block ?_
    refine At.seq ?_
    refine At.region ?_
    refine AtL.move (.inl rfl) rfl rfl ?_
    refine AtL.assign (.inl rfl) rfl rfl ?_
    refine AtL.done ?_
    refine At.region ?_
    refine AtL.move (.inl rfl) rfl rfl ?_
    refine AtL.move (.inl rfl) rfl rfl ?_
    refine AtL.loadN (cs := [.int .u8 0, .int .u8 0]) tf_agg282 (.inl rfl) rfl rfl rfl (cellsOwn 2 0 0 rfl rfl rfl) ?_
    refine AtL.move (.inl rfl) rfl rfl ?_
    refine AtL.sub (z := 1) (.inl rfl) rfl rfl rfl (by decide) ?_
    refine AtL.move (.inl rfl) rfl rfl ?_
    refine AtL.sub (z := 0) (.inl rfl) rfl rfl rfl (by decide) ?_
    refine AtL.mul (z := 0) (.inl rfl) rfl rfl rfl (by decide) ?_
    refine AtL.shr (z := n / 1) (.inl rfl) rfl rfl rfl (by omega) (shr_eq _ _ 0 rfl (by decide) _ (by decide)) ?_
    refine AtL.convInt (z := ((UInt8.ofInt (n / 1)).toNat : Int)) Tryz.underlying3 Tryz.underlying5 (.inl rfl) rfl rfl (u8_conv _) ?_
    refine AtL.buildSlice (cs := [.int .u8 ((UInt8.ofInt (n / 1)).toNat : Int)]) Tryz.underlying34 tf_zero5 tf_sz5 rfl rfl (.inl rfl) rfl rfl rfl ?_
    intro b9
    refine AtL.own1 tyB (l := ([(UInt8.ofInt (n / 1))] : List UInt8)) rfl rfl (by first | decide | simp) ?_
    intro s10 o11
    refine AtL.append (l := [] ++ [(UInt8.ofInt (n / 256))]) (news := [(UInt8.ofInt (n / 1))]) 1 tf_el34 rfl o8 (o11.rd (i := 0) rfl) (by first | omega | (simp only [List.length_append, List.length_cons, List.length_nil]; omega) | (simp; done) | (simp; omega)) (.inl rfl) rfl rfl rfl ?_
    intro A12 C13 s14 o15
    refine AtL.assign (.inl rfl) rfl rfl ?_
    refine AtL.done ?_
    refine At.inBlock ?_
    refine At.region ?_
    refine AtL.add (z := 2) (.inl rfl) rfl rfl rfl (by decide) ?_
    refine AtL.move (.inl rfl) rfl rfl ?_
    refine AtL.done ?_
    refine At.again ?_
    refine At.seq ?_
    refine At.region ?_
    refine AtL.lss (.inl rfl) rfl rfl rfl ?_
    refine AtL.done ?_
    refine At.seq ?_
    refine At.condF rfl ?_
    refine At.exit rfl ?_
    refine At.seq ?_
    refine At.region ?_
    refine AtL.move (.inl rfl) rfl rfl ?_
    refine AtL.assign (.inl rfl) rfl rfl ?_
    refine AtL.assign (.inl rfl) rfl rfl ?_
    refine AtL.done ?_
    refine At.pick (H' := s14 :: H) [1] 4 rfl rfl ?_
    exact At.ret Tryz.func208 rfl rfl (⟨_, _, _, by have h := o15; rw [Int.ediv_one] at h; exact h, rfl, rfl⟩)
set_option maxHeartbeats 400000 in
theorem put16_ok {w0 : World} {base : Nat} {H : List Seg} (n : Int) (h0 : 0 ≤ n) (h1 : n ≤ 65535) :
    SCalls Tryz.prog 203 [.int .i64 n] w0 base (H) (fun v H' => ∃ A' C' s', Own tyB 5 A' C' [UInt8.ofInt (n / 256), UInt8.ofInt n] s' ∧ v = .tuple #[.slice A' 2 C', int 0] ∧ H' = s' :: H) := by
  refine SCalls.of_walk (n := 8) Tryz.func203 rfl rfl rfl fun cs => ?_
  refine At.seq ?_
  refine At.region ?_
  refine AtL.assign (.inl rfl) rfl rfl ?_
  refine AtL.assign (.inl rfl) rfl rfl ?_
  refine AtL.done ?_
  refine At.seq ?_
  refine At.region ?_
  refine AtL.move (.inl rfl) rfl rfl ?_
  refine AtL.call tf_body208 (.inl rfl) rfl rfl (put2_ok n (by omega) (by omega)) ?_
  rintro _ _ ⟨A1, C2, s3, o4, rfl, rfl⟩
  refine AtL.extract (.inl rfl) rfl rfl rfl ?_
  refine AtL.extract (.inl rfl) rfl rfl rfl ?_
  refine AtL.assign (.inl rfl) rfl rfl ?_
  refine AtL.assign (.inl rfl) rfl rfl ?_
  refine AtL.done ?_
  exact At.ret Tryz.func203 rfl rfl (⟨_, _, _, o4, rfl, rfl⟩)
set_option maxHeartbeats 400000 in
theorem grow_ok {w0 : World} {base : Nat} {H : List Seg} (n : Nat) (hn : n ≤ 140737488355328) :
    SCalls Tryz.prog 49 [.slice none 0 0, .int .i64 (n : Int)] w0 base (H) (fun v H' => ∃ A' C' s', Own tyB 5 A' C' [] s' ∧ v = .slice A' 0 C' ∧ H' = s' :: H) := by
  refine SCalls.of_walk (n := 27) Tryz.func49 rfl rfl rfl fun cs => ?_
  refine At.seq ?_
  refine At.region ?_
  refine AtL.assign (.inl rfl) rfl rfl ?_
  refine AtL.done ?_
  refine At.seq ?_
  refine At.seq ?_
  refine At.region ?_
  refine AtL.move (.inl rfl) rfl rfl ?_
  refine AtL.lss (.inl rfl) rfl rfl rfl ?_
  refine AtL.done ?_
  refine At.condIs false rfl (decide_eq_false (by omega)) ?_
  refine At.skip ?_
  refine At.seq ?_
  refine At.seq ?_
  refine At.region ?_
  refine AtL.move (.inl rfl) rfl rfl ?_
  refine AtL.move (.inl rfl) rfl rfl ?_
  refine AtL.capL Tryz.underlying34 (.inl rfl) rfl rfl ?_
  refine AtL.move (.inl rfl) rfl rfl ?_
  refine AtL.lenL Tryz.underlying34 (.inl rfl) rfl rfl ?_
  refine AtL.sub (z := 0) (.inl rfl) rfl rfl rfl (by decide) ?_
  refine AtL.sub (z := (n : Int)) (.inl rfl) rfl rfl rfl (w64 (by omega) (by omega)) ?_
  refine AtL.assign (.inl rfl) rfl rfl ?_
  refine AtL.done ?_
  refine At.seq ?_
  refine At.region ?_
  refine AtL.move (.inl rfl) rfl rfl ?_
  refine AtL.gtr (.inl rfl) rfl rfl rfl ?_
  refine AtL.done ?_
  refine At.cond rfl ?_ ?_
  · intro hc2
    have hc2 : 0 < (n : Int) := of_decide_eq_true hc2
    refine At.region ?_
    refine AtL.move (.inl rfl) rfl rfl ?_
    refine AtL.move (.inl rfl) rfl rfl ?_
    refine AtL.capL Tryz.underlying34 (.inl rfl) rfl rfl ?_
    refine AtL.sliceNil rfl (evBound_some rfl rfl) Tryz.underlying34 tf_sz5 (.inl rfl) rfl rfl ?_
    refine AtL.move (.inl rfl) rfl rfl ?_
    refine AtL.nil ?_
    refine AtL.appendZ (l := ([] : List UInt8)) (m := n) 0 tf_el34 Tryz.underlying3 rfl (Own.nil tyB 5) (by decide) (by omega) (by first | omega | (simp only [List.length_append, List.length_cons, List.length_nil]; omega) | (simp; done) | (simp; omega)) (by first | omega | (simp only [List.length_append, List.length_cons, List.length_nil]; omega) | (simp; done) | (simp; omega)) (.inl rfl) rfl rfl rfl ?_
    intro A1 C2 s3 o4
    refine AtL.move (.inl rfl) rfl rfl ?_
    refine AtL.lenL Tryz.underlying34 (.inl rfl) rfl rfl ?_
    have hleo7 := Own.le_cap o4
    refine AtL.sliceO 0 0 C2 o4 rfl (evBound_some rfl rfl) rfl (by intro h; cases h) (by omega) (by omega) (by omega) (Nat.le_refl _) Tryz.underlying34 tf_sz5 (.inl rfl) rfl rfl ?_
    intro A5 C6 o7
    clear hleo7
    have hlo7 : (subl (([] : List UInt8) ++ List.replicate n (0 : UInt8)) 0 0).length = 0 - 0 := subl_len (by omega)
    refine AtL.assign (.inl rfl) rfl rfl ?_
    refine AtL.done ?_
    refine At.seq ?_
    refine At.region ?_
    refine AtL.move (.inl rfl) rfl rfl ?_
    refine AtL.assign (.inl rfl) rfl rfl ?_
    refine AtL.done ?_
    exact At.ret Tryz.func49 rfl rfl (⟨_, _, _, o7, rfl, rfl⟩)
  · intro hc2
    have hc2 : ¬ (0 < (n : Int)) := of_decide_eq_false hc2
    refine At.skip ?_
    refine At.seq ?_
    refine At.region ?_
    refine AtL.move (.inl rfl) rfl rfl ?_
    refine AtL.assign (.inl rfl) rfl rfl ?_
    refine AtL.done ?_
    refine At.nil ?_
    exact At.ret Tryz.func49 rfl rfl (⟨none, 0, [], Own.nil tyB 5, rfl, rfl⟩)
set_option maxHeartbeats 1000000 in
theorem concat2 {w0 : World} {base : Nat} {H : List Seg} {b : Nat} {A0 : Option Addr} {C0 : Nat} {l0 : List UInt8} (h0 : Rd tyB w0 base H A0 C0 l0) {A1 : Option Addr} {C1 : Nat} {l1 : List UInt8} (h1 : Rd tyB w0 base H A1 C1 l1) (hl : l0.length + l1.length ≤ 140737488355328) :
    SCalls Tryz.prog 44 [.slice (some ⟨b, 0, none⟩) 2 2] w0 base ([(b, .cells #[.slice A0 l0.length C0, .slice A1 l1.length C1] 34 (0, 0))] :: H) (fun v H' => ∃ A' C' s', Own tyB 5 A' C' (l0 ++ l1) s' ∧ v = .slice A' (l0 ++ l1).length C' ∧ H' = s' :: [(b, .cells #[.slice A0 l0.length C0, .slice A1 l1.length C1] 34 (0, 0))] :: H) := by
  refine SCalls.of_walk (n := 36) Tryz.func44 rfl rfl rfl fun cs => ?_
  refine At.seq ?_
  refine At.region ?_
  refine AtL.assign (.inl rfl) rfl rfl ?_
  refine AtL.done ?_
  refine At.seq ?_
  refine At.region ?_
  refine AtL.assign (.inl rfl) rfl rfl ?_
  refine AtL.done ?_
  refine At.seq ?_
  refine At.seq ?_
  refine At.region ?_
  refine AtL.move (.inl rfl) rfl rfl ?_
  refine AtL.lenL Tryz.underlying22 (.inl rfl) rfl rfl ?_
  refine AtL.move (.inl rfl) rfl rfl ?_
  refine AtL.done ?_
  refine At.block ?_
  refine At.unroll ?_
  refine At.seq ?_
  refine At.region ?_
  refine AtL.lss (.inl rfl) rfl rfl rfl ?_
  refine AtL.done ?_
  refine At.seq ?_
  refine At.condT rfl ?_
  refine At.skip ?_
  refine At.seq ?_
  refine At.block ?_
  refine At.seq ?_
  refine At.region ?_
  refine AtL.indexB 0 Tryz.underlying22 tf_sz34 (.inl rfl) rfl rfl rfl rfl rfl rfl ?_
  refine AtL.load tf_flat34 (.inl rfl) rfl rfl (Cell.own 0 0 rfl rfl rfl) ?_
  refine AtL.assign (.inl rfl) rfl rfl ?_
  refine AtL.done ?_
  refine At.seq ?_
  refine At.region ?_
  refine AtL.move (.inl rfl) rfl rfl ?_
  refine AtL.move (.inl rfl) rfl rfl ?_
  refine AtL.lenL Tryz.underlying34 (.inl rfl) rfl rfl ?_
  refine AtL.add (z := 0 + (l0.length : Int)) (.inl rfl) rfl rfl rfl (w64 (by omega) (by omega)) ?_
  refine AtL.assign (.inl rfl) rfl rfl ?_
  refine AtL.done ?_
  refine At.seq ?_
  refine At.region ?_
  refine AtL.move (.inl rfl) rfl rfl ?_
  refine AtL.lss (.inl rfl) rfl rfl rfl ?_
  refine AtL.done ?_
  refine At.condIs false rfl (decide_eq_false (by omega)) ?_
  refine At.skip ?_
  refine At.inBlock ?_
  refine At.region ?_
  refine AtL.add (z := 1) (.inl rfl) rfl rfl rfl (by decide) ?_
  refine AtL.move (.inl rfl) rfl rfl ?_
  refine AtL.done ?_
  refine At.again ?_
  refine At.seq ?_
  refine At.region ?_
  refine AtL.lss (.inl rfl) rfl rfl rfl ?_
  refine AtL.done ?_
  refine At.seq ?_
  refine At.condT rfl ?_
  refine At.skip ?_
  refine At.seq ?_
  refine At.block ?_
  refine At.seq ?_
  refine At.region ?_
  refine AtL.indexB 1 Tryz.underlying22 tf_sz34 (.inl rfl) rfl rfl rfl rfl rfl rfl ?_
  refine AtL.load tf_flat34 (.inl rfl) rfl rfl (Cell.own 0 0 rfl rfl rfl) ?_
  refine AtL.assign (.inl rfl) rfl rfl ?_
  refine AtL.done ?_
  refine At.seq ?_
  refine At.region ?_
  refine AtL.move (.inl rfl) rfl rfl ?_
  refine AtL.move (.inl rfl) rfl rfl ?_
  refine AtL.lenL Tryz.underlying34 (.inl rfl) rfl rfl ?_
  refine AtL.add (z := (0 + (l0.length : Int)) + (l1.length : Int)) (.inl rfl) rfl rfl rfl (w64 (by omega) (by omega)) ?_
  refine AtL.assign (.inl rfl) rfl rfl ?_
  refine AtL.done ?_
  refine At.seq ?_
  refine At.region ?_
  refine AtL.move (.inl rfl) rfl rfl ?_
  refine AtL.lss (.inl rfl) rfl rfl rfl ?_
  refine AtL.done ?_
  refine At.condIs false rfl (decide_eq_false (by omega)) ?_
  refine At.skip ?_
  refine At.inBlock ?_
  refine At.region ?_
  refine AtL.add (z := 2) (.inl rfl) rfl rfl rfl (by decide) ?_
  refine AtL.move (.inl rfl) rfl rfl ?_
  refine AtL.done ?_
  refine At.again ?_
  refine At.seq ?_
  refine At.region ?_
  refine AtL.lss (.inl rfl) rfl rfl rfl ?_
  refine AtL.done ?_
  refine At.seq ?_
  refine At.condF rfl ?_
  refine At.exit rfl ?_
  refine At.seq ?_
  refine At.region ?_
  refine AtL.move (.inl rfl) rfl rfl ?_
  refine AtL.call tf_body49 (.inl rfl) rfl rfl (grow_ok ((0 + l0.length) + l1.length) (by omega)) ?_
  rintro _ _ ⟨A1, C2, s3, o4, rfl, rfl⟩
  refine AtL.assign (.inl rfl) rfl rfl ?_
  refine AtL.done ?_
  refine At.seq ?_
  refine At.seq ?_
  refine At.region ?_
  refine AtL.move (.inl rfl) rfl rfl ?_
  refine AtL.lenL Tryz.underlying22 (.inl rfl) rfl rfl ?_
  refine AtL.move (.inl rfl) rfl rfl ?_
  refine AtL.done ?_
  refine At.block ?_
  refine At.unroll ?_
  refine At.seq ?_
  refine At.region ?_
  refine AtL.lss (.inl rfl) rfl rfl rfl ?_
  refine AtL.done ?_
  refine At.seq ?_
  refine At.condT rfl ?_
  refine At.skip ?_
  refine At.seq ?_
  refine At.block ?_
  refine At.seq ?_
  refine At.region ?_
  refine AtL.indexB 0 Tryz.underlying22 tf_sz34 (.inl rfl) rfl rfl rfl rfl rfl rfl ?_
  refine AtL.load tf_flat34 (.inl rfl) rfl rfl (Cell.own 1 0 rfl rfl rfl) ?_
  refine AtL.assign (.inl rfl) rfl rfl ?_
  refine AtL.done ?_
  refine At.region ?_
  refine AtL.move (.inl rfl) rfl rfl ?_
  refine AtL.move (.inl rfl) rfl rfl ?_
  refine AtL.append (l := ([] : List UInt8)) (news := l0) 0 tf_el34 rfl o4 (Rd.skip 2 h0) (by first | omega | (simp only [List.length_append, List.length_cons, List.length_nil]; omega) | (simp; done) | (simp; omega)) (.inl rfl) rfl rfl rfl ?_
  intro A5 C6 s7 o8
  refine AtL.assign (.inl rfl) rfl rfl ?_
  refine AtL.done ?_
  refine At.inBlock ?_
  refine At.region ?_
  refine AtL.add (z := 1) (.inl rfl) rfl rfl rfl (by decide) ?_
  refine AtL.move (.inl rfl) rfl rfl ?_
  refine AtL.done ?_
  refine At.again ?_
  refine At.seq ?_
  refine At.region ?_
  refine AtL.lss (.inl rfl) rfl rfl rfl ?_
  refine AtL.done ?_
  refine At.seq ?_
  refine At.condT rfl ?_
  refine At.skip ?_
  refine At.seq ?_
  refine At.block ?_
  refine At.seq ?_
  refine At.region ?_
  refine AtL.indexB 1 Tryz.underlying22 tf_sz34 (.inl rfl) rfl rfl rfl rfl rfl rfl ?_
  refine AtL.load tf_flat34 (.inl rfl) rfl rfl (Cell.own 1 0 rfl rfl rfl) ?_
  refine AtL.assign (.inl rfl) rfl rfl ?_
  refine AtL.done ?_
  refine At.region ?_
  refine AtL.move (.inl rfl) rfl rfl ?_
  refine AtL.move (.inl rfl) rfl rfl ?_
  refine AtL.append (l := ([] : List UInt8) ++ l0) (news := l1) 0 tf_el34 rfl o8 (Rd.skip 2 h1) (by first | omega | (simp only [List.length_append, List.length_cons, List.length_nil]; omega) | (simp; done) | (simp; omega)) (.inl rfl) rfl rfl rfl ?_
  intro A9 C10 s11 o12
  refine AtL.assign (.inl rfl) rfl rfl ?_
  refine AtL.done ?_
  refine At.inBlock ?_
  refine At.region ?_
  refine AtL.add (z := 2) (.inl rfl) rfl rfl rfl (by decide) ?_
  refine AtL.move (.inl rfl) rfl rfl ?_
  refine AtL.done ?_
  refine At.again ?_
  refine At.seq ?_
  refine At.region ?_
  refine AtL.lss (.inl rfl) rfl rfl rfl ?_
  refine AtL.done ?_
  refine At.seq ?_
  refine At.condF rfl ?_
  refine At.exit rfl ?_
  refine At.seq ?_
  refine At.region ?_
  refine AtL.move (.inl rfl) rfl rfl ?_
  refine AtL.assign (.inl rfl) rfl rfl ?_
  refine AtL.done ?_
  exact At.ret Tryz.func44 rfl rfl (⟨_, _, _, o12, rfl, rfl⟩)
set_option maxHeartbeats 1000000 in
theorem concat3 {w0 : World} {base : Nat} {H : List Seg} {b : Nat} {A0 : Option Addr} {C0 : Nat} {l0 : List UInt8} (h0 : Rd tyB w0 base H A0 C0 l0) {A1 : Option Addr} {C1 : Nat} {l1 : List UInt8} (h1 : Rd tyB w0 base H A1 C1 l1) {A2 : Option Addr} {C2 : Nat} {l2 : List UInt8} (h2 : Rd tyB w0 base H A2 C2 l2) (hl : l0.length + l1.length + l2.length ≤ 140737488355328) :
    SCalls Tryz.prog 44 [.slice (some ⟨b, 0, none⟩) 3 3] w0 base ([(b, .cells #[.slice A0 l0.length C0, .slice A1 l1.length C1, .slice A2 l2.length C2] 34 (0, 0))] :: H) (fun v H' => ∃ A' C' s', Own tyB 5 A' C' (l0 ++ l1 ++ l2) s' ∧ v = .slice A' (l0 ++ l1 ++ l2).length C' ∧ H' = s' :: [(b, .cells #[.slice A0 l0.length C0, .slice A1 l1.length C1, .slice A2 l2.length C2] 34 (0, 0))] :: H) := by
  refine SCalls.of_walk (n := 36) Tryz.func44 rfl rfl rfl fun cs => ?_
  refine At.seq ?_
  refine At.region ?_
  refine AtL.assign (.inl rfl) rfl rfl ?_
  refine AtL.done ?_
  refine At.seq ?_
  refine At.region ?_
  refine AtL.assign (.inl rfl) rfl rfl ?_
  refine AtL.done ?_
  refine At.seq ?_
  refine At.seq ?_
  refine At.region ?_
  refine AtL.move (.inl rfl) rfl rfl ?_
  refine AtL.lenL Tryz.underlying22 (.inl rfl) rfl rfl ?_
  refine AtL.move (.inl rfl) rfl rfl ?_
  refine AtL.done ?_
  refine At.block ?_
  refine At.unroll ?_
  refine At.seq ?_
  refine At.region ?_
  refine AtL.lss (.inl rfl) rfl rfl rfl ?_
  refine AtL.done ?_
  refine At.seq ?_
  refine At.condT rfl ?_
  refine At.skip ?_
  refine At.seq ?_
  refine At.block ?_
  refine At.seq ?_
  refine At.region ?_
  refine AtL.indexB 0 Tryz.underlying22 tf_sz34 (.inl rfl) rfl rfl rfl rfl rfl rfl ?_
  refine AtL.load tf_flat34 (.inl rfl) rfl rfl (Cell.own 0 0 rfl rfl rfl) ?_
  refine AtL.assign (.inl rfl) rfl rfl ?_
  refine AtL.done ?_
  refine At.seq ?_
  refine At.region ?_
  refine AtL.move (.inl rfl) rfl rfl ?_
  refine AtL.move (.inl rfl) rfl rfl ?_
  refine AtL.lenL Tryz.underlying34 (.inl rfl) rfl rfl ?_
  refine AtL.add (z := 0 + (l0.length : Int)) (.inl rfl) rfl rfl rfl (w64 (by omega) (by omega)) ?_
  refine AtL.assign (.inl rfl) rfl rfl ?_
  refine AtL.done ?_
  refine At.seq ?_
  refine At.region ?_
  refine AtL.move (.inl rfl) rfl rfl ?_
  refine AtL.lss (.inl rfl) rfl rfl rfl ?_
  refine AtL.done ?_
  refine At.condIs false rfl (decide_eq_false (by omega)) ?_
  refine At.skip ?_
  refine At.inBlock ?_
  refine At.region ?_
  refine AtL.add (z := 1) (.inl rfl) rfl rfl rfl (by decide) ?_
  refine AtL.move (.inl rfl) rfl rfl ?_
  refine AtL.done ?_
  refine At.again ?_
  refine At.seq ?_
  refine At.region ?_
  refine AtL.lss (.inl rfl) rfl rfl rfl ?_
  refine AtL.done ?_
  refine At.seq ?_
  refine At.condT rfl ?_
  refine At.skip ?_
  refine At.seq ?_
  refine At.block ?_
  refine At.seq ?_
  refine At.region ?_
  refine AtL.indexB 1 Tryz.underlying22 tf_sz34 (.inl rfl) rfl rfl rfl rfl rfl rfl ?_
  refine AtL.load tf_flat34 (.inl rfl) rfl rfl (Cell.own 0 0 rfl rfl rfl) ?_
  refine AtL.assign (.inl rfl) rfl rfl ?_
  refine AtL.done ?_
  refine At.seq ?_
  refine At.region ?_
  refine AtL.move (.inl rfl) rfl rfl ?_
  refine AtL.move (.inl rfl) rfl rfl ?_
  refine AtL.lenL Tryz.underlying34 (.inl rfl) rfl rfl ?_
  refine AtL.add (z := (0 + (l0.length : Int)) + (l1.length : Int)) (.inl rfl) rfl rfl rfl (w64 (by omega) (by omega)) ?_
  refine AtL.assign (.inl rfl) rfl rfl ?_
  refine AtL.done ?_
  refine At.seq ?_
  refine At.region ?_
  refine AtL.move (.inl rfl) rfl rfl ?_
  refine AtL.lss (.inl rfl) rfl rfl rfl ?_
  refine AtL.done ?_
  refine At.condIs false rfl (decide_eq_false (by omega)) ?_
  refine At.skip ?_
  refine At.inBlock ?_
  refine At.region ?_
  refine AtL.add (z := 2) (.inl rfl) rfl rfl rfl (by decide) ?_
  refine AtL.move (.inl rfl) rfl rfl ?_
  refine AtL.done ?_
  refine At.again ?_
  refine At.seq ?_
  refine At.region ?_
  refine AtL.lss (.inl rfl) rfl rfl rfl ?_
  refine AtL.done ?_
  refine At.seq ?_
  refine At.condT rfl ?_
  refine At.skip ?_
  refine At.seq ?_
  refine At.block ?_
  refine At.seq ?_
  refine At.region ?_
  refine AtL.indexB 2 Tryz.underlying22 tf_sz34 (.inl rfl) rfl rfl rfl rfl rfl rfl ?_
  refine AtL.load tf_flat34 (.inl rfl) rfl rfl (Cell.own 0 0 rfl rfl rfl) ?_
  refine AtL.assign (.inl rfl) rfl rfl ?_
  refine AtL.done ?_
  refine At.seq ?_
  refine At.region ?_
  refine AtL.move (.inl rfl) rfl rfl ?_
  refine AtL.move (.inl rfl) rfl rfl ?_
  refine AtL.lenL Tryz.underlying34 (.inl rfl) rfl rfl ?_
  refine AtL.add (z := ((0 + (l0.length : Int)) + (l1.length : Int)) + (l2.length : Int)) (.inl rfl) rfl rfl rfl (w64 (by omega) (by omega)) ?_
  refine AtL.assign (.inl rfl) rfl rfl ?_
  refine AtL.done ?_
  refine At.seq ?_
  refine At.region ?_
  refine AtL.move (.inl rfl) rfl rfl ?_
  refine AtL.lss (.inl rfl) rfl rfl rfl ?_
  refine AtL.done ?_
  refine At.condIs false rfl (decide_eq_false (by omega)) ?_
  refine At.skip ?_
  refine At.inBlock ?_
  refine At.region ?_
  refine AtL.add (z := 3) (.inl rfl) rfl rfl rfl (by decide) ?_
  refine AtL.move (.inl rfl) rfl rfl ?_
  refine AtL.done ?_
  refine At.again ?_
  refine At.seq ?_
  refine At.region ?_
  refine AtL.lss (.inl rfl) rfl rfl rfl ?_
  refine AtL.done ?_
  refine At.seq ?_
  refine At.condF rfl ?_
  refine At.exit rfl ?_
  refine At.seq ?_
  refine At.region ?_
  refine AtL.move (.inl rfl) rfl rfl ?_
  refine AtL.call tf_body49 (.inl rfl) rfl rfl (grow_ok (((0 + l0.length) + l1.length) + l2.length) (by omega)) ?_
  rintro _ _ ⟨A1, C2, s3, o4, rfl, rfl⟩
  refine AtL.assign (.inl rfl) rfl rfl ?_
  refine AtL.done ?_
  refine At.seq ?_
  refine At.seq ?_
  refine At.region ?_
  refine AtL.move (.inl rfl) rfl rfl ?_
  refine AtL.lenL Tryz.underlying22 (.inl rfl) rfl rfl ?_
  refine AtL.move (.inl rfl) rfl rfl ?_
  refine AtL.done ?_
  refine At.block ?_
  refine At.unroll ?_
  refine At.seq ?_
  refine At.region ?_
  refine AtL.lss (.inl rfl) rfl rfl rfl ?_
  refine AtL.done ?_
  refine At.seq ?_
  refine At.condT rfl ?_
  refine At.skip ?_
  refine At.seq ?_
  refine At.block ?_
  refine At.seq ?_
  refine At.region ?_
  refine AtL.indexB 0 Tryz.underlying22 tf_sz34 (.inl rfl) rfl rfl rfl rfl rfl rfl ?_
  refine AtL.load tf_flat34 (.inl rfl) rfl rfl (Cell.own 1 0 rfl rfl rfl) ?_
  refine AtL.assign (.inl rfl) rfl rfl ?_
  refine AtL.done ?_
  refine At.region ?_
  refine AtL.move (.inl rfl) rfl rfl ?_
  refine AtL.move (.inl rfl) rfl rfl ?_
  refine AtL.append (l := ([] : List UInt8)) (news := l0) 0 tf_el34 rfl o4 (Rd.skip 2 h0) (by first | omega | (simp only [List.length_append, List.length_cons, List.length_nil]; omega) | (simp; done) | (simp; omega)) (.inl rfl) rfl rfl rfl ?_
  intro A5 C6 s7 o8
  refine AtL.assign (.inl rfl) rfl rfl ?_
  refine AtL.done ?_
  refine At.inBlock ?_
  refine At.region ?_
  refine AtL.add (z := 1) (.inl rfl) rfl rfl rfl (by decide) ?_
  refine AtL.move (.inl rfl) rfl rfl ?_
  refine AtL.done ?_
  refine At.again ?_
  refine At.seq ?_
  refine At.region ?_
  refine AtL.lss (.inl rfl) rfl rfl rfl ?_
  refine AtL.done ?_
  refine At.seq ?_
  refine At.condT rfl ?_
  refine At.skip ?_
  refine At.seq ?_
  refine At.block ?_
  refine At.seq ?_
  refine At.region ?_
  refine AtL.indexB 1 Tryz.underlying22 tf_sz34 (.inl rfl) rfl rfl rfl rfl rfl rfl ?_
  refine AtL.load tf_flat34 (.inl rfl) rfl rfl (Cell.own 1 0 rfl rfl rfl) ?_
  refine AtL.assign (.inl rfl) rfl rfl ?_
  refine AtL.done ?_
  refine At.region ?_
  refine AtL.move (.inl rfl) rfl rfl ?_
  refine AtL.move (.inl rfl) rfl rfl ?_
  refine AtL.append (l := ([] : List UInt8) ++ l0) (news := l1) 0 tf_el34 rfl o8 (Rd.skip 2 h1) (by first | omega | (simp only [List.length_append, List.length_cons, List.length_nil]; omega) | (simp; done) | (simp; omega)) (.inl rfl) rfl rfl rfl ?_
  intro A9 C10 s11 o12
  refine AtL.assign (.inl rfl) rfl rfl ?_
  refine AtL.done ?_
  refine At.inBlock ?_
  refine At.region ?_
  refine AtL.add (z := 2) (.inl rfl) rfl rfl rfl (by decide) ?_
  refine AtL.move (.inl rfl) rfl rfl ?_
  refine AtL.done ?_
  refine At.again ?_
  refine At.seq ?_
  refine At.region ?_
  refine AtL.lss (.inl rfl) rfl rfl rfl ?_
  refine AtL.done ?_
  refine At.seq ?_
  refine At.condT rfl ?_
  refine At.skip ?_
  refine At.seq ?_
  refine At.block ?_
  refine At.seq ?_
  refine At.region ?_
  refine AtL.indexB 2 Tryz.underlying22 tf_sz34 (.inl rfl) rfl rfl rfl rfl rfl rfl ?_
  refine AtL.load tf_flat34 (.inl rfl) rfl rfl (Cell.own 1 0 rfl rfl rfl) ?_
  refine AtL.assign (.inl rfl) rfl rfl ?_
  refine AtL.done ?_
  refine At.region ?_
  refine AtL.move (.inl rfl) rfl rfl ?_
  refine AtL.move (.inl rfl) rfl rfl ?_
  refine AtL.append (l := (([] : List UInt8) ++ l0) ++ l1) (news := l2) 0 tf_el34 rfl o12 (Rd.skip 2 h2) (by first | omega | (simp only [List.length_append, List.length_cons, List.length_nil]; omega) | (simp; done) | (simp; omega)) (.inl rfl) rfl rfl rfl ?_
  intro A13 C14 s15 o16
  refine AtL.assign (.inl rfl) rfl rfl ?_
  refine AtL.done ?_
  refine At.inBlock ?_
  refine At.region ?_
  refine AtL.add (z := 3) (.inl rfl) rfl rfl rfl (by decide) ?_
  refine AtL.move (.inl rfl) rfl rfl ?_
  refine AtL.done ?_
  refine At.again ?_
  refine At.seq ?_
  refine At.region ?_
  refine AtL.lss (.inl rfl) rfl rfl rfl ?_
  refine AtL.done ?_
  refine At.seq ?_
  refine At.condF rfl ?_
  refine At.exit rfl ?_
  refine At.seq ?_
  refine At.region ?_
  refine AtL.move (.inl rfl) rfl rfl ?_
  refine AtL.assign (.inl rfl) rfl rfl ?_
  refine AtL.done ?_
  exact At.ret Tryz.func44 rfl rfl (⟨_, _, _, o16, rfl, rfl⟩)
set_option maxHeartbeats 400000 in
theorem rgrow_ok {w0 : World} {base : Nat} {H : List Seg} (n : Nat) (hn : n ≤ 140737488355328) :
    SCalls Tryz.prog 204 [.slice none 0 0, .int .i64 (n : Int)] w0 base (H) (fun v H' => ∃ A' C' s', Own tyB 5 A' C' [] s' ∧ v = .slice A' 0 C' ∧ H' = s' :: H) := by
  refine SCalls.of_walk (n := 27) Tryz.func204 rfl rfl rfl fun cs => ?_
  refine At.seq ?_
  refine At.region ?_
  refine AtL.assign (.inl rfl) rfl rfl ?_
  refine AtL.done ?_
  refine At.seq ?_
  refine At.seq ?_
  refine At.region ?_
  refine AtL.move (.inl rfl) rfl rfl ?_
  refine AtL.lss (.inl rfl) rfl rfl rfl ?_
  refine AtL.done ?_
  refine At.condIs false rfl (decide_eq_false (by omega)) ?_
  refine At.skip ?_
  refine At.seq ?_
  refine At.seq ?_
  refine At.region ?_
  refine AtL.move (.inl rfl) rfl rfl ?_
  refine AtL.move (.inl rfl) rfl rfl ?_
  refine AtL.capL Tryz.underlying85 (.inl rfl) rfl rfl ?_
  refine AtL.move (.inl rfl) rfl rfl ?_
  refine AtL.lenL Tryz.underlying85 (.inl rfl) rfl rfl ?_
  refine AtL.sub (z := 0) (.inl rfl) rfl rfl rfl (by decide) ?_
  refine AtL.sub (z := (n : Int)) (.inl rfl) rfl rfl rfl (w64 (by omega) (by omega)) ?_
  refine AtL.assign (.inl rfl) rfl rfl ?_
  refine AtL.done ?_
  refine At.seq ?_
  refine At.region ?_
  refine AtL.move (.inl rfl) rfl rfl ?_
  refine AtL.gtr (.inl rfl) rfl rfl rfl ?_
  refine AtL.done ?_
  refine At.cond rfl ?_ ?_
  · intro hc2
    have hc2 : 0 < (n : Int) := of_decide_eq_true hc2
    refine At.region ?_
    refine AtL.move (.inl rfl) rfl rfl ?_
    refine AtL.move (.inl rfl) rfl rfl ?_
    refine AtL.capL Tryz.underlying85 (.inl rfl) rfl rfl ?_
    refine AtL.sliceNil rfl (evBound_some rfl rfl) Tryz.underlying85 tf_sz5 (.inl rfl) rfl rfl ?_
    refine AtL.move (.inl rfl) rfl rfl ?_
    refine AtL.nil ?_
    refine AtL.appendZ (l := ([] : List UInt8)) (m := n) 0 tf_el85 Tryz.underlying3 rfl (Own.nil tyB 5) (by decide) (by omega) (by first | omega | (simp only [List.length_append, List.length_cons, List.length_nil]; omega) | (simp; done) | (simp; omega)) (by first | omega | (simp only [List.length_append, List.length_cons, List.length_nil]; omega) | (simp; done) | (simp; omega)) (.inl rfl) rfl rfl rfl ?_
    intro A1 C2 s3 o4
    refine AtL.move (.inl rfl) rfl rfl ?_
    refine AtL.lenL Tryz.underlying85 (.inl rfl) rfl rfl ?_
    have hleo7 := Own.le_cap o4
    refine AtL.sliceO 0 0 C2 o4 rfl (evBound_some rfl rfl) rfl (by intro h; cases h) (by omega) (by omega) (by omega) (Nat.le_refl _) Tryz.underlying85 tf_sz5 (.inl rfl) rfl rfl ?_
    intro A5 C6 o7
    clear hleo7
    have hlo7 : (subl (([] : List UInt8) ++ List.replicate n (0 : UInt8)) 0 0).length = 0 - 0 := subl_len (by omega)
    refine AtL.assign (.inl rfl) rfl rfl ?_
    refine AtL.done ?_
    refine At.seq ?_
    refine At.region ?_
    refine AtL.move (.inl rfl) rfl rfl ?_
    refine AtL.assign (.inl rfl) rfl rfl ?_
    refine AtL.done ?_
    exact At.ret Tryz.func204 rfl rfl (⟨_, _, _, o7, rfl, rfl⟩)
  · intro hc2
    have hc2 : ¬ (0 < (n : Int)) := of_decide_eq_false hc2
    refine At.skip ?_
    refine At.seq ?_
    refine At.region ?_
    refine AtL.move (.inl rfl) rfl rfl ?_
    refine AtL.assign (.inl rfl) rfl rfl ?_
    refine AtL.done ?_
    refine At.nil ?_
    exact At.ret Tryz.func204 rfl rfl (⟨none, 0, [], Own.nil tyB 5, rfl, rfl⟩)
set_option maxHeartbeats 1000000 in
theorem rconcat2 {w0 : World} {base : Nat} {H : List Seg} {b : Nat} {A0 : Option Addr} {C0 : Nat} {l0 : List UInt8} (h0 : Rd tyB w0 base H A0 C0 l0) {A1 : Option Addr} {C1 : Nat} {l1 : List UInt8} (h1 : Rd tyB w0 base H A1 C1 l1) (hl : l0.length + l1.length ≤ 140737488355328) :
    SCalls Tryz.prog 200 [.slice (some ⟨b, 0, none⟩) 2 2] w0 base ([(b, .cells #[.slice A0 l0.length C0, .slice A1 l1.length C1] 85 (0, 0))] :: H) (fun v H' => ∃ A' C' s', Own tyB 5 A' C' (l0 ++ l1) s' ∧ v = .slice A' (l0 ++ l1).length C' ∧ H' = s' :: [(b, .cells #[.slice A0 l0.length C0, .slice A1 l1.length C1] 85 (0, 0))] :: H) := by
  refine SCalls.of_walk (n := 36) Tryz.func200 rfl rfl rfl fun cs => ?_
  refine At.seq ?_
  refine At.region ?_
  refine AtL.assign (.inl rfl) rfl rfl ?_
  refine AtL.done ?_
  refine At.seq ?_
  refine At.region ?_
  refine AtL.assign (.inl rfl) rfl rfl ?_
  refine AtL.done ?_
  refine At.seq ?_
  refine At.seq ?_
  refine At.region ?_
  refine AtL.move (.inl rfl) rfl rfl ?_
  refine AtL.lenL Tryz.underlying278 (.inl rfl) rfl rfl ?_
  refine AtL.move (.inl rfl) rfl rfl ?_
  refine AtL.done ?_
  refine At.block ?_
  refine At.unroll ?_
  refine At.seq ?_
  refine At.region ?_
  refine AtL.lss (.inl rfl) rfl rfl rfl ?_
  refine AtL.done ?_
  refine At.seq ?_
  refine At.condT rfl ?_
  refine At.skip ?_
  refine At.seq ?_
  refine At.block ?_
  refine At.seq ?_
  refine At.region ?_
  refine AtL.indexB 0 Tryz.underlying278 tf_sz85 (.inl rfl) rfl rfl rfl rfl rfl rfl ?_
  refine AtL.load tf_flat85 (.inl rfl) rfl rfl (Cell.own 0 0 rfl rfl rfl) ?_
  refine AtL.assign (.inl rfl) rfl rfl ?_
  refine AtL.done ?_
  refine At.seq ?_
  refine At.region ?_
  refine AtL.move (.inl rfl) rfl rfl ?_
  refine AtL.move (.inl rfl) rfl rfl ?_
  refine AtL.lenL Tryz.underlying85 (.inl rfl) rfl rfl ?_
  refine AtL.add (z := 0 + (l0.length : Int)) (.inl rfl) rfl rfl rfl (w64 (by omega) (by omega)) ?_
  refine AtL.assign (.inl rfl) rfl rfl ?_
  refine AtL.done ?_
  refine At.seq ?_
  refine At.region ?_
  refine AtL.move (.inl rfl) rfl rfl ?_
  refine AtL.lss (.inl rfl) rfl rfl rfl ?_
  refine AtL.done ?_
  refine At.condIs false rfl (decide_eq_false (by omega)) ?_
  refine At.skip ?_
  refine At.inBlock ?_
  refine At.region ?_
  refine AtL.add (z := 1) (.inl rfl) rfl rfl rfl (by decide) ?_
  refine AtL.move (.inl rfl) rfl rfl ?_
  refine AtL.done ?_
  refine At.again ?_
  refine At.seq ?_
  refine At.region ?_
  refine AtL.lss (.inl rfl) rfl rfl rfl ?_
  refine AtL.done ?_
  refine At.seq ?_
  refine At.condT rfl ?_
  refine At.skip ?_
  refine At.seq ?_
  refine At.block ?_
  refine At.seq ?_
  refine At.region ?_
  refine AtL.indexB 1 Tryz.underlying278 tf_sz85 (.inl rfl) rfl rfl rfl rfl rfl rfl ?_
  refine AtL.load tf_flat85 (.inl rfl) rfl rfl (Cell.own 0 0 rfl rfl rfl) ?_
  refine AtL.assign (.inl rfl) rfl rfl ?_
  refine AtL.done ?_
  refine At.seq ?_
  refine At.region ?_
  refine AtL.move (.inl rfl) rfl rfl ?_
  refine AtL.move (.inl rfl) rfl rfl ?_
  refine AtL.lenL Tryz.underlying85 (.inl rfl) rfl rfl ?_
  refine AtL.add (z := (0 + (l0.length : Int)) + (l1.length : Int)) (.inl rfl) rfl rfl rfl (w64 (by omega) (by omega)) ?_
  refine AtL.assign (.inl rfl) rfl rfl ?_
  refine AtL.done ?_
  refine At.seq ?_
  refine At.region ?_
  refine AtL.move (.inl rfl) rfl rfl ?_
  refine AtL.lss (.inl rfl) rfl rfl rfl ?_
  refine AtL.done ?_
  refine At.condIs false rfl (decide_eq_false (by omega)) ?_
  refine At.skip ?_
  refine At.inBlock ?_
  refine At.region ?_
  refine AtL.add (z := 2) (.inl rfl) rfl rfl rfl (by decide) ?_
  refine AtL.move (.inl rfl) rfl rfl ?_
  refine AtL.done ?_
  refine At.again ?_
  refine At.seq ?_
  refine At.region ?_
  refine AtL.lss (.inl rfl) rfl rfl rfl ?_
  refine AtL.done ?_
  refine At.seq ?_
  refine At.condF rfl ?_
  refine At.exit rfl ?_
  refine At.seq ?_
  refine At.region ?_
  refine AtL.move (.inl rfl) rfl rfl ?_
  refine AtL.call tf_body204 (.inl rfl) rfl rfl (rgrow_ok ((0 + l0.length) + l1.length) (by omega)) ?_
  rintro _ _ ⟨A1, C2, s3, o4, rfl, rfl⟩
  refine AtL.assign (.inl rfl) rfl rfl ?_
  refine AtL.done ?_
  refine At.seq ?_
  refine At.seq ?_
  refine At.region ?_
  refine AtL.move (.inl rfl) rfl rfl ?_
  refine AtL.lenL Tryz.underlying278 (.inl rfl) rfl rfl ?_
  refine AtL.move (.inl rfl) rfl rfl ?_
  refine AtL.done ?_
  refine At.block ?_
  refine At.unroll ?_
  refine At.seq ?_
  refine At.region ?_
  refine AtL.lss (.inl rfl) rfl rfl rfl ?_
  refine AtL.done ?_
  refine At.seq ?_
  refine At.condT rfl ?_
  refine At.skip ?_
  refine At.seq ?_
  refine At.block ?_
  refine At.seq ?_
  refine At.region ?_
  refine AtL.indexB 0 Tryz.underlying278 tf_sz85 (.inl rfl) rfl rfl rfl rfl rfl rfl ?_
  refine AtL.load tf_flat85 (.inl rfl) rfl rfl (Cell.own 1 0 rfl rfl rfl) ?_
  refine AtL.assign (.inl rfl) rfl rfl ?_
  refine AtL.done ?_
  refine At.region ?_
  refine AtL.move (.inl rfl) rfl rfl ?_
  refine AtL.move (.inl rfl) rfl rfl ?_
  refine AtL.append (l := ([] : List UInt8)) (news := l0) 0 tf_el85 rfl o4 (Rd.skip 2 h0) (by first | omega | (simp only [List.length_append, List.length_cons, List.length_nil]; omega) | (simp; done) | (simp; omega)) (.inl rfl) rfl rfl rfl ?_
  intro A5 C6 s7 o8
  refine AtL.assign (.inl rfl) rfl rfl ?_
  refine AtL.done ?_
  refine At.inBlock ?_
  refine At.region ?_
  refine AtL.add (z := 1) (.inl rfl) rfl rfl rfl (by decide) ?_
  refine AtL.move (.inl rfl) rfl rfl ?_
  refine AtL.done ?_
  refine At.again ?_
  refine At.seq ?_
  refine At.region ?_
  refine AtL.lss (.inl rfl) rfl rfl rfl ?_
  refine AtL.done ?_
  refine At.seq ?_
  refine At.condT rfl ?_
  refine At.skip ?_
  refine At.seq ?_
  refine At.block ?_
  refine At.seq ?_
  refine At.region ?_
  refine AtL.indexB 1 Tryz.underlying278 tf_sz85 (.inl rfl) rfl rfl rfl rfl rfl rfl ?_
  refine AtL.load tf_flat85 (.inl rfl) rfl rfl (Cell.own 1 0 rfl rfl rfl) ?_
  refine AtL.assign (.inl rfl) rfl rfl ?_
  refine AtL.done ?_
  refine At.region ?_
  refine AtL.move (.inl rfl) rfl rfl ?_
  refine AtL.move (.inl rfl) rfl rfl ?_
  refine AtL.append (l := ([] : List UInt8) ++ l0) (news := l1) 0 tf_el85 rfl o8 (Rd.skip 2 h1) (by first | omega | (simp only [List.length_append, List.length_cons, List.length_nil]; omega) | (simp; done) | (simp; omega)) (.inl rfl) rfl rfl rfl ?_
  intro A9 C10 s11 o12
  refine AtL.assign (.inl rfl) rfl rfl ?_
  refine AtL.done ?_
  refine At.inBlock ?_
  refine At.region ?_
  refine AtL.add (z := 2) (.inl rfl) rfl rfl rfl (by decide) ?_
  refine AtL.move (.inl rfl) rfl rfl ?_
  refine AtL.done ?_
  refine At.again ?_
  refine At.seq ?_
  refine At.region ?_
  refine AtL.lss (.inl rfl) rfl rfl rfl ?_
  refine AtL.done ?_
  refine At.seq ?_
  refine At.condF rfl ?_
  refine At.exit rfl ?_
  refine At.seq ?_
  refine At.region ?_
  refine AtL.move (.inl rfl) rfl rfl ?_
  refine AtL.assign (.inl rfl) rfl rfl ?_
  refine AtL.done ?_
  exact At.ret Tryz.func200 rfl rfl (⟨_, _, _, o12, rfl, rfl⟩)
end Go.Proofs.YtbfabhdfmoiabaaGreatDoor
namespace Go.Proofs.YtbfabhdfmoiabaaGreatDoor
set_option linter.unusedVariables false
set_option linter.unusedSimpArgs false
set_option maxRecDepth 100000
set_option maxHeartbeats 400000 in
theorem at1_ret {w0 : World} {base : Nat} {H : List Seg} {b : Nat} {x : Value} :
    DCalls Tryz.prog 212 [.pointer (some ⟨b, 0, none⟩)] w0 base ([(b, .cells #[x] 26 (0, 0))] :: H) .returning (fun m' H' => m' = .returning ∧ H' = [(b, .cells #[x] 26 (0, 0))] :: H) := by
  refine DCalls.of_walk (n := 14) Tryz.func212 rfl rfl rfl fun fr cs => ?_
  refine At.seq ?_
  refine At.region ?_
  refine AtL.recoverNone rfl ?_
  refine AtL.assign (.inl rfl) rfl rfl ?_
  refine AtL.done ?_
  refine At.seq ?_
  refine At.seq ?_
  refine At.region ?_
  refine AtL.move (.inl rfl) rfl rfl ?_
  refine AtL.typeAssert (u := .tuple #[.nilIface, .bool false]) (.inl rfl) rfl rfl (fun w => by kernel_rfl) ?_
  refine AtL.move (.inl rfl) rfl rfl ?_
  refine AtL.extract (.inl rfl) rfl rfl rfl ?_
  refine AtL.extract (.inl rfl) rfl rfl rfl ?_
  refine AtL.assign (.inl rfl) rfl rfl ?_
  refine AtL.assign (.inl rfl) rfl rfl ?_
  refine AtL.done ?_
  refine At.seq ?_
  refine At.region ?_
  refine AtL.move (.inl rfl) rfl rfl ?_
  refine AtL.done ?_
  refine At.condF rfl ?_
  refine At.skip ?_
  refine At.seq ?_
  refine At.region ?_
  refine AtL.move (.inl rfl) rfl rfl ?_
  refine AtL.neNilIface Tryz.underlying20 (.inl rfl) rfl rfl ?_
  refine AtL.done ?_
  refine At.condF rfl ?_
  refine At.skip ?_
  refine At.endU rfl ?_
  exact Un.leftD (vs := []) Tryz.func212 rfl trivial (⟨rfl, rfl⟩)
set_option maxHeartbeats 400000 in
theorem at1_bad {w0 : World} {base : Nat} {H : List Seg} {b : Nat} {x : Value} (i m : Int) (s : Bool) :
    DCalls Tryz.prog 212 [.pointer (some ⟨b, 0, none⟩)] w0 base ([(b, .cells #[x] 26 (0, 0))] :: H) (.panicking [{ v := .iface Tryz.prog.rt.boundsError (.agg #[.int .i64 i, .int .i64 m, .bool s, .int .u8 0]), recovered := false }]) (fun m' H' => m' = .returning ∧ H' = [(b, .cells #[int 4] 26 (0, 0))] :: H) := by
  refine DCalls.of_walk (n := 14) Tryz.func212 rfl rfl rfl fun fr cs => ?_
  refine At.seq ?_
  refine At.region ?_
  refine AtL.recoverSome rfl ?_
  refine AtL.assign (.inl rfl) rfl rfl ?_
  refine AtL.done ?_
  refine At.seq ?_
  refine At.seq ?_
  refine At.region ?_
  refine AtL.move (.inl rfl) rfl rfl ?_
  refine AtL.typeAssert (u := .tuple #[.iface Tryz.prog.rt.boundsError (.agg #[.int .i64 i, .int .i64 m, .bool s, .int .u8 0]), .bool true]) (.inl rfl) rfl rfl (fun w => by kernel_rfl) ?_
  refine AtL.move (.inl rfl) rfl rfl ?_
  refine AtL.extract (.inl rfl) rfl rfl rfl ?_
  refine AtL.extract (.inl rfl) rfl rfl rfl ?_
  refine AtL.assign (.inl rfl) rfl rfl ?_
  refine AtL.assign (.inl rfl) rfl rfl ?_
  refine AtL.done ?_
  refine At.seq ?_
  refine At.region ?_
  refine AtL.move (.inl rfl) rfl rfl ?_
  refine AtL.done ?_
  refine At.condT rfl ?_
  refine At.seq ?_
  refine At.region ?_
  refine AtL.store (H' := [(b, .cells #[.int .i64 4] 26 (0, 0))] :: H) 0 0 tf_sz26 (.inl rfl) rfl rfl rfl rfl rfl rfl rfl rfl rfl ?_
  refine AtL.done ?_
  refine At.retU rfl ?_
  exact Un.leftD (vs := []) Tryz.func212 rfl trivial (⟨rfl, rfl⟩)
def atF (l : List UInt8) (i : Int) : UInt8 × Int := if 0 ≤ i ∧ i < (l.length : Int) then (l.getD i.toNat 0, 0) else (0, 4)
set_option maxHeartbeats 400000 in
theorem at_ok {w0 : World} {base : Nat} {H : List Seg} {A : Option Addr} {C : Nat} {l : List UInt8} (h : Rd tyB w0 base H A C l) (i : Int) :
    SCalls Tryz.prog 211 [.slice A l.length C, .int .i64 i] w0 base (H) (fun v H' => v = .tuple #[.int .u8 (atF l i).1.toNat, int (atF l i).2] ∧ H' = H) := by
  refine SCalls.of_walk (n := 11) Tryz.func211 rfl rfl rfl fun cs => ?_
  refine At.seq ?_
  refine At.region ?_
  refine AtL.assign (.inl rfl) rfl rfl ?_
  refine AtL.alloc tf_zero26 (cs := #[.int .i64 0]) rfl (.inl rfl) rfl ?_
  intro b1
  refine AtL.done ?_
  refine At.seq ?_
  refine At.region ?_
  refine AtL.makeFunc (.inl rfl) rfl rfl rfl ?_
  refine AtL.defer rfl (.inl rfl) rfl rfl rfl ?_
  refine AtL.done ?_
  refine At.seq ?_
  refine At.region ?_
  refine AtL.move (.inl rfl) rfl rfl ?_
  refine AtL.move (.inl rfl) rfl rfl ?_
  rcases Classical.em (0 ≤ i ∧ i < (l.length : Int)) with hin | hin
  · skip
    obtain ⟨j, hj⟩ : ∃ j : Nat, i = (j : Int) := ⟨(i).toNat, by omega⟩
    refine AtL.indexL j (Rd.skip 1 h) Tryz.underlying34 tf_sz5 (.inl rfl) rfl rfl rfl hj (by omega) ?_
    refine AtL.load (v := .int .u8 ((l.getD j 0).toNat : Int)) tf_flat5 (.inl rfl) rfl rfl (Rd.cell0 (Rd.skip 1 h) (getD_some 0 (by omega)) rfl) ?_
    refine AtL.assign (.inl rfl) rfl rfl ?_
    refine AtL.store (H' := [(b1, .cells #[.int .i64 0] 26 (0, 0))] :: H) 0 0 tf_sz26 (.inl rfl) rfl rfl rfl rfl rfl rfl rfl rfl rfl ?_
    refine AtL.done ?_
    refine At.retU rfl ?_
    refine Un.defer tf_body212 rfl rfl at1_ret ?_
    rintro _ _ ⟨rfl, rfl⟩
    exact Un.leftP (vs := [.int .u8 ((l.getD j 0).toNat : Int), .int .i64 0]) (H2 := H) [] 1 rfl rfl Tryz.func211 rfl ⟨rfl, ⟨_, rfl, LoadsTo.flat tf_flat26 (Cell.own 0 0 rfl rfl rfl)⟩, trivial⟩ (⟨by subst hj; rw [atF, if_pos hin]; rfl, rfl⟩)
  · skip
    refine AtL.indexPanics Tryz.underlying34 (.inl rfl) rfl rfl (by omega) ?_
    intro m s
    refine Un.defer tf_body212 rfl rfl (at1_bad _ _ _) ?_
    rintro _ _ ⟨rfl, rfl⟩
    exact Un.leftP (vs := [.int .u8 0, .int .i64 4]) (H2 := H) [] 1 rfl rfl Tryz.func211 rfl ⟨rfl, ⟨_, rfl, LoadsTo.flat tf_flat26 (Cell.own 0 0 rfl rfl rfl)⟩, trivial⟩ (⟨by rw [atF, if_neg hin]; rfl, rfl⟩)
def get16F (l : List UInt8) (i : Nat) : Int × Int × Int × Int :=
  if l.length < i + 2 then (0, 0, if l.length < i then 5 else 4, if l.length < i then 0 else l.length) else (256 * (l.getD i 0).toNat + (l.getD (i + 1) 0).toNat, i + 2, 0, 0)
set_option maxHeartbeats 400000 in
theorem get2_ok {w0 : World} {base : Nat} {H : List Seg} {A : Option Addr} {C : Nat} {l : List UInt8} (h : Rd tyB w0 base H A C l) (i : Nat) (hi : i ≤ 4611686018427387904) (hl : l.length ≤ 4611686018427387904) :
    SCalls Tryz.prog 210 [.slice A l.length C, .int .i64 (i : Int), .int .i64 2] w0 base (H) (fun v H' => v = .tuple #[int (get16F l i).1, int (get16F l i).2.1, .agg #[int (get16F l i).2.2.1, int (get16F l i).2.2.2]] ∧ H' = H) := by
  refine SCalls.of_walk (n := 51) Tryz.func210 rfl rfl rfl fun cs => ?_
  refine At.seq ?_
  refine At.region ?_
  refine AtL.assign (.inl rfl) rfl rfl ?_
  refine AtL.assign (.inl rfl) rfl rfl ?_
  refine AtL.alloc tf_zero284 (cs := #[.int .i64 0, .int .i64 0]) rfl (.inl rfl) rfl ?_
  intro b1
  refine AtL.done ?_
  refine At.seq ?_
  refine At.seq ?_
  refine At.region ?_
  refine AtL.move (.inl rfl) rfl rfl ?_
  refine AtL.lss (.inl rfl) rfl rfl rfl ?_
  refine AtL.move (.inl rfl) rfl rfl ?_
  refine AtL.join 5 (E' := [(20, .bool (decide ((l.length : Int) < (i : Int)))), (0, .slice A l.length C), (1, .int .i64 (i : Int)), (2, .int .i64 2), (8, .pointer (some ⟨b1, 0, none⟩))]) (H' := [(b1, .cells #[.int .i64 0, .int .i64 0] 284 (0, 0))] :: H) (fun J => ?_) ?_
  · refine AtL.split (t := 15) rfl ?_ ?_
    · intro hs15
      have hs15 : (i : Int) < 0 := of_decide_eq_true hs15
      exact absurd hs15 (by omega)
    · intro hs15
      have hs15 : ¬ ((i : Int) < 0) := of_decide_eq_false hs15
      refine AtL.move (.inr ⟨_, _, _, rfl, rfl, rfl, rfl⟩) rfl rfl ?_
      refine AtL.move (.inr ⟨_, _, _, rfl, rfl, rfl, rfl⟩) rfl rfl ?_
      refine AtL.lenL Tryz.underlying34 (.inr ⟨_, _, _, rfl, rfl, rfl, rfl⟩) rfl rfl ?_
      refine AtL.gtr (.inr ⟨_, _, _, rfl, rfl, rfl, rfl⟩) rfl rfl rfl ?_
      refine AtL.pickF (.inl rfl) rfl rfl rfl ?_
      exact J _ (by exact ⟨(boolIs (by clear J; first | (simp [hs15]; done) | (simp_all; done) | grind)), rfl, rfl, rfl, rfl, trivial⟩)
  · skip
    refine AtL.done ?_
    refine At.cond rfl ?_ ?_
    · intro hc1
      have hc1 : (l.length : Int) < (i : Int) := of_decide_eq_true hc1
      refine At.seq ?_
      refine At.region ?_
      refine AtL.build (cs := [.int .i64 5, .int .i64 0]) tf_lay284 (.inl rfl) rfl rfl rfl ?_
      refine AtL.assign (.inl rfl) rfl rfl ?_
      refine AtL.assign (.inl rfl) rfl rfl ?_
      refine AtL.store (H' := [(b1, .cells #[.int .i64 5, .int .i64 0] 284 (0, 0))] :: H) 0 0 tf_sz284 (.inl rfl) rfl rfl rfl rfl rfl rfl rfl rfl rfl ?_
      refine AtL.done ?_
      exact At.retMP (vs := [.int .i64 0, .int .i64 0, .agg #[.int .i64 5, .int .i64 0]]) (H2 := H) [] 1 rfl rfl Tryz.func210 rfl ⟨rfl, rfl, ⟨_, rfl, LoadsTo.agg (cs := [.int .i64 5, .int .i64 0]) tf_agg284 rfl (cellsOwn 0 0 0 rfl rfl rfl)⟩, trivial⟩ (⟨by grind [oneOf, get16F, atF], rfl⟩)
    · intro hc1
      have hc1 : ¬ ((l.length : Int) < (i : Int)) := of_decide_eq_false hc1
      refine At.skip ?_
      refine At.seq ?_
      refine At.region ?_
      refine AtL.assign (.inl rfl) rfl rfl ?_
      refine AtL.done ?_
      refine At.seq ?_
      refine At.seq ?_
      refine At.region ?_
      refine AtL.move (.inl rfl) rfl rfl ?_
      refine AtL.move (.inl rfl) rfl rfl ?_
      refine AtL.done ?_
      refine At.block ?_
      refine At.unroll ?_
      refine At.seq ?_
      refine At.region ?_
      refine AtL.lss (.inl rfl) rfl rfl rfl ?_
      refine AtL.done ?_
      refine At.seq ?_
      refine At.condT rfl ?_
      refine At.skip ?_
      refine At.seq ?_
      refine At.block ?_
      refine At.seq ?_
      refine At.region ?_
      refine AtL.move (.inl rfl) rfl rfl ?_
      refine AtL.assign (.inl rfl) rfl rfl ?_
      refine AtL.done ?_
      refine At.seq ?_
      refine At.region ?_
      refine AtL.move (.inl rfl) rfl rfl ?_
      refine AtL.move (.inl rfl) rfl rfl ?_
      refine AtL.move (.inl rfl) rfl rfl ?_
      refine AtL.add (z := (i : Int) + 0) (.inl rfl) rfl rfl rfl (w64 (by omega) (by omega)) ?_
      refine AtL.call tf_body211 (.inl rfl) rfl rfl (at_ok (l := l) (Rd.skip 1 h) ((i : Int) + 0)) ?_
      rintro _ _ ⟨rfl, rfl⟩
      refine AtL.move (.inl rfl) rfl rfl ?_
      refine AtL.extract (.inl rfl) rfl rfl rfl ?_
      refine AtL.extract (.inl rfl) rfl rfl rfl ?_
      refine AtL.assign (.inl rfl) rfl rfl ?_
      refine AtL.assign (.inl rfl) rfl rfl ?_
      refine AtL.done ?_
      have hB0 := (atF l (((i : Nat) : Int) + 0)).1.toNat_lt
      refine At.seq ?_
      refine At.seq ?_
      refine At.region ?_
      refine AtL.move (.inl rfl) rfl rfl ?_
      refine AtL.nei (.inl rfl) rfl rfl rfl ?_
      refine AtL.done ?_
      refine At.cond rfl ?_ ?_
      · intro hc3
        have hc3 : ¬ (((atF l ((i : Int) + 0)).2) = 0) := of_decide_eq_false (bnot_true hc3)
        refine At.seq ?_
        refine At.region ?_
        refine AtL.move (.inl rfl) rfl rfl ?_
        refine AtL.move (.inl rfl) rfl rfl ?_
        refine AtL.lenL Tryz.underlying34 (.inl rfl) rfl rfl ?_
        refine AtL.build (cs := [.int .i64 ((atF l ((i : Int) + 0)).2), .int .i64 (l.length : Int)]) tf_lay284 (.inl rfl) rfl rfl rfl ?_
        refine AtL.assign (.inl rfl) rfl rfl ?_
        refine AtL.assign (.inl rfl) rfl rfl ?_
        refine AtL.store (H' := [(b1, .cells #[.int .i64 ((atF l ((i : Int) + 0)).2), .int .i64 (l.length : Int)] 284 (0, 0))] :: H) 0 0 tf_sz284 (.inl rfl) rfl rfl rfl rfl rfl rfl rfl rfl rfl ?_
        refine AtL.done ?_
        exact At.retMP (vs := [.int .i64 0, .int .i64 0, .agg #[.int .i64 ((atF l ((i : Int) + 0)).2), .int .i64 (l.length : Int)]]) (H2 := H) [] 1 rfl rfl Tryz.func210 rfl ⟨rfl, rfl, ⟨_, rfl, LoadsTo.agg (cs := [.int .i64 ((atF l ((i : Int) + 0)).2), .int .i64 (l.length : Int)]) tf_agg284 rfl (cellsOwn 0 0 0 rfl rfl rfl)⟩, trivial⟩ (⟨by grind [oneOf, get16F, atF], rfl⟩)
      · intro hc3
        have hc3 : ((atF l ((i : Int) + 0)).2) = 0 := of_decide_eq_true (bnot_false hc3)
        refine At.skip ?_
        refine At.region ?_
        refine AtL.move (.inl rfl) rfl rfl ?_
        refine AtL.shl (z := 0 * 256) (.inl rfl) rfl rfl rfl (by omega) (shl_eq _ _ 8 rfl (by decide) _ (by decide) (by omega) (by omega)) ?_
        refine AtL.move (.inl rfl) rfl rfl ?_
        have hB2 := u8_le (((atF l ((i : Int) + 0)).1))
        refine AtL.convInt (z := ((atF l ((i : Int) + 0)).1.toNat : Int)) Tryz.underlying5 Tryz.underlying3 (.inl rfl) rfl rfl (u8_i64 _) ?_
        refine AtL.bor (z := (0 * 256) + ((atF l ((i : Int) + 0)).1.toNat : Int)) (.inl rfl) rfl rfl rfl (or_add 8 (Int.toNat 0) _ (by omega) rfl (by omega) (by omega)) ?_
        refine AtL.assign (.inl rfl) rfl rfl ?_
        refine AtL.done ?_
        refine At.inBlock ?_
        refine At.region ?_
        refine AtL.add (z := 1) (.inl rfl) rfl rfl rfl (by decide) ?_
        refine AtL.move (.inl rfl) rfl rfl ?_
        refine AtL.done ?_
        refine At.again ?_
        refine At.seq ?_
        refine At.region ?_
        refine AtL.lss (.inl rfl) rfl rfl rfl ?_
        refine AtL.done ?_
        refine At.seq ?_
        refine At.condT rfl ?_
        refine At.skip ?_
        refine At.seq ?_
        refine At.block ?_
        refine At.seq ?_
        refine At.region ?_
        refine AtL.move (.inl rfl) rfl rfl ?_
        refine AtL.assign (.inl rfl) rfl rfl ?_
        refine AtL.done ?_
        refine At.seq ?_
        refine At.region ?_
        refine AtL.move (.inl rfl) rfl rfl ?_
        refine AtL.move (.inl rfl) rfl rfl ?_
        refine AtL.move (.inl rfl) rfl rfl ?_
        refine AtL.add (z := (i : Int) + 1) (.inl rfl) rfl rfl rfl (w64 (by omega) (by omega)) ?_
        refine AtL.call tf_body211 (.inl rfl) rfl rfl (at_ok (l := l) (Rd.skip 1 h) ((i : Int) + 1)) ?_
        rintro _ _ ⟨rfl, rfl⟩
        refine AtL.move (.inl rfl) rfl rfl ?_
        refine AtL.extract (.inl rfl) rfl rfl rfl ?_
        refine AtL.extract (.inl rfl) rfl rfl rfl ?_
        refine AtL.assign (.inl rfl) rfl rfl ?_
        refine AtL.assign (.inl rfl) rfl rfl ?_
        refine AtL.done ?_
        have hB1 := (atF l (((i : Nat) : Int) + 1)).1.toNat_lt
        refine At.seq ?_
        refine At.seq ?_
        refine At.region ?_
        refine AtL.move (.inl rfl) rfl rfl ?_
        refine AtL.nei (.inl rfl) rfl rfl rfl ?_
        refine AtL.done ?_
        refine At.cond rfl ?_ ?_
        · intro hc3
          have hc3 : ¬ (((atF l ((i : Int) + 1)).2) = 0) := of_decide_eq_false (bnot_true hc3)
          refine At.seq ?_
          refine At.region ?_
          refine AtL.move (.inl rfl) rfl rfl ?_
          refine AtL.move (.inl rfl) rfl rfl ?_
          refine AtL.lenL Tryz.underlying34 (.inl rfl) rfl rfl ?_
          refine AtL.build (cs := [.int .i64 ((atF l ((i : Int) + 1)).2), .int .i64 (l.length : Int)]) tf_lay284 (.inl rfl) rfl rfl rfl ?_
          refine AtL.assign (.inl rfl) rfl rfl ?_
          refine AtL.assign (.inl rfl) rfl rfl ?_
          refine AtL.store (H' := [(b1, .cells #[.int .i64 ((atF l ((i : Int) + 1)).2), .int .i64 (l.length : Int)] 284 (0, 0))] :: H) 0 0 tf_sz284 (.inl rfl) rfl rfl rfl rfl rfl rfl rfl rfl rfl ?_
          refine AtL.done ?_
          exact At.retMP (vs := [.int .i64 0, .int .i64 0, .agg #[.int .i64 ((atF l ((i : Int) + 1)).2), .int .i64 (l.length : Int)]]) (H2 := H) [] 1 rfl rfl Tryz.func210 rfl ⟨rfl, rfl, ⟨_, rfl, LoadsTo.agg (cs := [.int .i64 ((atF l ((i : Int) + 1)).2), .int .i64 (l.length : Int)]) tf_agg284 rfl (cellsOwn 0 0 0 rfl rfl rfl)⟩, trivial⟩ (⟨by grind [oneOf, get16F, atF], rfl⟩)
        · intro hc3
          have hc3 : ((atF l ((i : Int) + 1)).2) = 0 := of_decide_eq_true (bnot_false hc3)
          refine At.skip ?_
          refine At.region ?_
          refine AtL.move (.inl rfl) rfl rfl ?_
          refine AtL.shl (z := ((0 * 256) + ((atF l ((i : Int) + 0)).1.toNat : Int)) * 256) (.inl rfl) rfl rfl rfl (by omega) (shl_eq _ _ 8 rfl (by decide) _ (by decide) (by omega) (by omega)) ?_
          refine AtL.move (.inl rfl) rfl rfl ?_
          have hB3 := u8_le (((atF l ((i : Int) + 1)).1))
          refine AtL.convInt (z := ((atF l ((i : Int) + 1)).1.toNat : Int)) Tryz.underlying5 Tryz.underlying3 (.inl rfl) rfl rfl (u8_i64 _) ?_
          refine AtL.bor (z := (((0 * 256) + ((atF l ((i : Int) + 0)).1.toNat : Int)) * 256) + ((atF l ((i : Int) + 1)).1.toNat : Int)) (.inl rfl) rfl rfl rfl (or_add 8 (Int.toNat ((0 * 256) + ((atF l ((i : Int) + 0)).1.toNat : Int))) _ (by omega) rfl (by omega) (by omega)) ?_
          refine AtL.assign (.inl rfl) rfl rfl ?_
          refine AtL.done ?_
          refine At.inBlock ?_
          refine At.region ?_
          refine AtL.add (z := 2) (.inl rfl) rfl rfl rfl (by decide) ?_
          refine AtL.move (.inl rfl) rfl rfl ?_
          refine AtL.done ?_
          refine At.again ?_
          refine At.seq ?_
          refine At.region ?_
          refine AtL.lss (.inl rfl) rfl rfl rfl ?_
          refine AtL.done ?_
          refine At.seq ?_
          refine At.condF rfl ?_
          refine At.exit rfl ?_
          refine At.seq ?_
          refine At.region ?_
          refine AtL.move (.inl rfl) rfl rfl ?_
          refine AtL.move (.inl rfl) rfl rfl ?_
          refine AtL.move (.inl rfl) rfl rfl ?_
          refine AtL.add (z := (i : Int) + 2) (.inl rfl) rfl rfl rfl (w64 (by omega) (by omega)) ?_
          refine AtL.build (cs := [.int .i64 0, .int .i64 0]) tf_lay284 (.inl rfl) rfl rfl rfl ?_
          refine AtL.assign (.inl rfl) rfl rfl ?_
          refine AtL.assign (.inl rfl) rfl rfl ?_
          refine AtL.store (H' := [(b1, .cells #[.int .i64 0, .int .i64 0] 284 (0, 0))] :: H) 0 0 tf_sz284 (.inl rfl) rfl rfl rfl rfl rfl rfl rfl rfl rfl ?_
          refine AtL.done ?_
          exact At.retMP (vs := [.int .i64 ((((0 * 256) + ((atF l ((i : Int) + 0)).1.toNat : Int)) * 256) + ((atF l ((i : Int) + 1)).1.toNat : Int)), .int .i64 ((i : Int) + 2), .agg #[.int .i64 0, .int .i64 0]]) (H2 := H) [] 1 rfl rfl Tryz.func210 rfl ⟨rfl, rfl, ⟨_, rfl, LoadsTo.agg (cs := [.int .i64 0, .int .i64 0]) tf_agg284 rfl (cellsOwn 0 0 0 rfl rfl rfl)⟩, trivial⟩ (⟨by grind [oneOf, get16F, atF], rfl⟩)
set_option maxHeartbeats 400000 in
theorem get16_ok {w0 : World} {base : Nat} {H : List Seg} {A : Option Addr} {C : Nat} {l : List UInt8} (h : Rd tyB w0 base H A C l) (i : Nat) (hi : i ≤ 4611686018427387904) (hl : l.length ≤ 4611686018427387904) :
    SCalls Tryz.prog 209 [.slice A l.length C, .int .i64 (i : Int)] w0 base (H) (fun v H' => v = .tuple #[int (get16F l i).1, int (get16F l i).2.1, .agg #[int (get16F l i).2.2.1, int (get16F l i).2.2.2]] ∧ H' = H) := by
  refine SCalls.of_walk (n := 13) Tryz.func209 rfl rfl rfl fun cs => ?_
  refine At.seq ?_
  refine At.region ?_
  refine AtL.assign (.inl rfl) rfl rfl ?_
  refine AtL.assign (.inl rfl) rfl rfl ?_
  refine AtL.alloc tf_zero284 (cs := #[.int .i64 0, .int .i64 0]) rfl (.inl rfl) rfl ?_
  intro b1
  refine AtL.done ?_
  refine At.seq ?_
  refine At.region ?_
  refine AtL.move (.inl rfl) rfl rfl ?_
  refine AtL.move (.inl rfl) rfl rfl ?_
  refine AtL.call tf_body210 (.inl rfl) rfl rfl (get2_ok (l := l) (Rd.skip 1 h) i (by omega) (by omega)) ?_
  rintro _ _ ⟨rfl, rfl⟩
  refine AtL.extract (.inl rfl) rfl rfl rfl ?_
  refine AtL.extract (.inl rfl) rfl rfl rfl ?_
  refine AtL.extract (.inl rfl) rfl rfl rfl ?_
  refine AtL.assign (.inl rfl) rfl rfl ?_
  refine AtL.assign (.inl rfl) rfl rfl ?_
  refine AtL.store (H' := [(b1, .cells #[.int .i64 ((get16F l i).2.2.1), .int .i64 ((get16F l i).2.2.2)] 284 (0, 0))] :: H) 0 0 tf_sz284 (.inl rfl) rfl rfl rfl rfl rfl rfl rfl rfl rfl ?_
  refine AtL.done ?_
  exact At.retMP (vs := [.int .i64 ((get16F l i).1), .int .i64 ((get16F l i).2.1), .agg #[.int .i64 ((get16F l i).2.2.1), .int .i64 ((get16F l i).2.2.2)]]) (H2 := H) [] 1 rfl rfl Tryz.func209 rfl ⟨rfl, rfl, ⟨_, rfl, LoadsTo.agg (cs := [.int .i64 ((get16F l i).2.2.1), .int .i64 ((get16F l i).2.2.2)]) tf_agg284 rfl (cellsOwn 0 0 0 rfl rfl rfl)⟩, trivial⟩ (⟨rfl, rfl⟩)
end Go.Proofs.YtbfabhdfmoiabaaGreatDoor
namespace Go.Proofs.YtbfabhdfmoiabaaGreatDoor
set_option linter.unusedVariables false
set_option linter.unusedSimpArgs false
set_option maxRecDepth 100000
def recB (k : Int) (l : List UInt8) : List UInt8 := [UInt8.ofInt k] ++ [UInt8.ofInt ((l.length : Int) / 256), UInt8.ofInt (l.length : Int)] ++ l
def recE (k : Int) (l : List UInt8) : Int := if k < 1 ∨ 3 < k ∨ (k = 1 ∧ l ≠ [1]) ∨ (k = 3 ∧ 0 < l.length) then 4 else if 1024 < l.length then 3 else 0
def recL (k : Int) (l : List UInt8) : List UInt8 := if recE k l = 0 then recB k l else []
theorem recL_data (l : List UInt8) (h : l.length ≤ 1024) : recL 2 l = recB 2 l := by
  rw [recL, if_pos]
  rw [recE, if_neg (by omega), if_neg (by omega)]
theorem recL_hello : recL 1 [1] = [1, 0, 1, 1] := by decide
structure OneR where
  e : Int
  n : Nat
  x : List UInt8
  h : Bool
  off : Bool
def oneF (h : Bool) (l : List UInt8) : OneR :=
  if l.length = 0 then ⟨0, 0, [], h, false⟩ else
  if (l.getD 0 0).toNat < 1 ∨ 3 < (l.getD 0 0).toNat ∨ decide (((l.getD 0 0).toNat : Int) = 1) = h then ⟨4, 0, [], h, false⟩ else
  if l.length < 3 then ⟨0, 0, [], h, false⟩ else
  if ((l.getD 0 0).toNat = 1 ∧ 256 * (l.getD 1 0).toNat + (l.getD 2 0).toNat ≠ 1) ∨ ((l.getD 0 0).toNat = 3 ∧ 256 * (l.getD 1 0).toNat + (l.getD 2 0).toNat ≠ 0) then ⟨4, 0, [], h, false⟩ else
  if 1024 < 256 * (l.getD 1 0).toNat + (l.getD 2 0).toNat then ⟨3, 0, [], h, false⟩ else
  if l.length < 3 + (256 * (l.getD 1 0).toNat + (l.getD 2 0).toNat) then ⟨0, 0, [], h, false⟩ else
  if (l.getD 0 0).toNat = 1 then (if (l.getD 3 0).toNat = 1 then ⟨0, 4, [], true, false⟩ else ⟨4, 0, [], h, false⟩) else
  if (l.getD 0 0).toNat = 3 then ⟨0, 3, [], h, true⟩ else
  ⟨0, 3 + (256 * (l.getD 1 0).toNat + (l.getD 2 0).toNat), subl l 3 (3 + (256 * (l.getD 1 0).toNat + (l.getD 2 0).toNat)), h, false⟩
theorem oneF_n (h : Bool) (l : List UInt8) : (oneF h l).n ≤ l.length ∧ ((oneF h l).n ≠ 0 → 0 < l.length) ∧ ((oneF h l).n = 0 → (oneF h l).x = []) ∧ (oneF h l).x.length ≤ (oneF h l).n := by
  unfold oneF
  repeat' split
  all_goals simp [subl]
  all_goals grind
theorem subl_drop (l : List UInt8) (n : Nat) : subl l n l.length = l.drop n := by
  unfold subl
  rw [List.take_of_length_le (by simp)]
structure PushR where
  out : List UInt8
  e : Int
  rest : List UInt8
  h : Bool
  off : Bool
def pushF (h : Bool) (l : List UInt8) : PushR :=
  if (oneF h l).e ≠ 0 then ⟨[], (oneF h l).e, [], h, false⟩
  else if (oneF h l).off then ⟨(oneF h l).x, 0, [], (oneF h l).h, true⟩
  else if hn : (oneF h l).n = 0 then ⟨[], 0, l, (oneF h l).h, false⟩
  else ⟨(oneF h l).x ++ (pushF (oneF h l).h (l.drop (oneF h l).n)).out, (pushF (oneF h l).h (l.drop (oneF h l).n)).e, (pushF (oneF h l).h (l.drop (oneF h l).n)).rest, (pushF (oneF h l).h (l.drop (oneF h l).n)).h, (pushF (oneF h l).h (l.drop (oneF h l).n)).off⟩
termination_by l.length
decreasing_by all_goals (have := oneF_n h l; simp; omega)
def told (out : List UInt8) (h : Bool) (l : List UInt8) : PushR := { pushF h l with out := out ++ (pushF h l).out }
theorem told_nil (h : Bool) (l : List UInt8) : told [] h l = pushF h l := rfl
theorem told_err {out : List UInt8} {h : Bool} {l : List UInt8} (he : (oneF h l).e ≠ 0) : told out h l = ⟨out, (oneF h l).e, [], h, false⟩ := by
  rw [told, pushF, if_pos he]
  simp
theorem told_off {out : List UInt8} {h : Bool} {l : List UInt8} (he : (oneF h l).e = 0) (ho : (oneF h l).off = true) : told out h l = ⟨out ++ (oneF h l).x, 0, [], (oneF h l).h, true⟩ := by
  rw [told, pushF, if_neg (by omega), if_pos ho]
theorem told_none {out : List UInt8} {h : Bool} {l : List UInt8} (he : (oneF h l).e = 0) (ho : (oneF h l).off = false) (hn : (oneF h l).n = 0) : told out h l = ⟨out, 0, l, (oneF h l).h, false⟩ := by
  rw [told, pushF, if_neg (by omega), if_neg (by simp [ho]), dif_pos hn]
  simp
theorem told_more {out : List UInt8} {h : Bool} {l : List UInt8} (he : (oneF h l).e = 0) (ho : (oneF h l).off = false) (hn : (oneF h l).n ≠ 0) : told out h l = told (out ++ (oneF h l).x) (oneF h l).h (l.drop (oneF h l).n) := by
  rw [told, pushF, if_neg (by omega), if_neg (by simp [ho]), dif_neg hn]
  simp [told]
def recs (l : List UInt8) : List UInt8 := if l = [] then [] else recB 2 (l.take 1024) ++ recs (l.drop 1024)
termination_by l.length
decreasing_by (simp; have := List.length_pos_iff.2 ‹¬ l = []›; omega)
def greetF (g : Bool) : List UInt8 := if g then [] else [1, 0, 1, 1]
def sendF (g shut : Bool) (l : List UInt8) : List UInt8 := if shut ∨ l.length = 0 then [] else greetF g ++ recs l
set_option maxHeartbeats 400000 in
theorem rec_ok {w0 : World} {base : Nat} {H : List Seg} {A : Option Addr} {C : Nat} {l : List UInt8} (h : Rd tyB w0 base H A C l) (hl : l.length ≤ 140737488355000) (k : Int) :
    SCalls Tryz.prog 198 [.int .i64 k, .slice A l.length C] w0 base (H) (fun v H' => ∃ A' C' s' l', Own tyB 5 A' C' l' s' ∧ l' = recL k l ∧ v = .tuple #[.slice A' l'.length C', int (recE k l)] ∧ H' = s' :: H) := by
  refine SCalls.of_walk (n := 46) Tryz.func198 rfl rfl rfl fun cs => ?_
  refine At.seq ?_
  refine At.region ?_
  refine AtL.assign (.inl rfl) rfl rfl ?_
  refine AtL.assign (.inl rfl) rfl rfl ?_
  refine AtL.done ?_
  refine At.seq ?_
  refine At.block ?_
  refine At.seq ?_
  refine At.seq ?_
  refine At.region ?_
  refine AtL.move (.inl rfl) rfl rfl ?_
  refine AtL.lss (.inl rfl) rfl rfl rfl ?_
  refine AtL.move (.inl rfl) rfl rfl ?_
  refine AtL.join 3 (E' := [(14, .bool (decide (((k : Int) < 1) ∨ (3 < (k : Int))))), (0, .int .i64 k), (1, .slice A l.length C)]) (H' := H) (fun J => ?_) ?_
  · refine AtL.split (t := 11) rfl ?_ ?_
    · intro hs11
      have hs11 : (k : Int) < 1 := of_decide_eq_true hs11
      refine AtL.skipped rfl rfl rfl rfl rfl rfl ?_
      refine AtL.skipped rfl rfl rfl rfl rfl rfl ?_
      refine AtL.pickT (.inl rfl) rfl rfl rfl ?_
      exact J _ (by exact ⟨(boolIs (by clear J; first | (simp [hs11]; done) | (simp_all; done) | grind)), rfl, rfl, trivial⟩)
    · intro hs11
      have hs11 : ¬ ((k : Int) < 1) := of_decide_eq_false hs11
      refine AtL.move (.inr ⟨_, _, _, rfl, rfl, rfl, rfl⟩) rfl rfl ?_
      refine AtL.gtr (.inr ⟨_, _, _, rfl, rfl, rfl, rfl⟩) rfl rfl rfl ?_
      refine AtL.pickF (.inl rfl) rfl rfl rfl ?_
      exact J _ (by exact ⟨(boolIs (by clear J; first | (simp [hs11]; done) | (simp_all; done) | grind)), rfl, rfl, trivial⟩)
  · skip
    refine AtL.assign (.inl rfl) rfl rfl ?_
    refine AtL.done ?_
    refine At.cond rfl ?_ ?_
    · intro hc1
      have hc1 : ((k : Int) < 1) ∨ (3 < (k : Int)) := of_decide_eq_true hc1
      refine At.skip ?_
      refine At.cond rfl ?_ ?_
      · intro hc3
        have hc3 : ((k : Int) < 1) ∨ (3 < (k : Int)) := of_decide_eq_true hc3
        refine At.seq ?_
        refine At.region ?_
        refine AtL.assign (.inl rfl) rfl rfl ?_
        refine AtL.assign (.inl rfl) rfl rfl ?_
        refine AtL.done ?_
        refine At.nil ?_
        exact At.ret Tryz.func198 rfl rfl (⟨_, _, _, _, (Own.nil tyB 5), by simp only [recL, recE, recB]; grind [ofInt_mod], by simp only [oneOf, recE]; grind, rfl⟩)
      · intro hc3
        have hc3 : ¬ (((k : Int) < 1) ∨ (3 < (k : Int))) := of_decide_eq_false hc3
        refine At.seq ?_
        refine At.region ?_
        refine AtL.move (.inl rfl) rfl rfl ?_
        refine AtL.lenL Tryz.underlying34 (.inl rfl) rfl rfl ?_
        refine AtL.gtr (.inl rfl) rfl rfl rfl ?_
        refine AtL.assign (.inl rfl) rfl rfl ?_
        refine AtL.done ?_
        refine At.cond rfl ?_ ?_
        · intro hc4
          have hc4 : 1024 < (l.length : Int) := of_decide_eq_true hc4
          refine At.seq ?_
          refine At.region ?_
          refine AtL.assign (.inl rfl) rfl rfl ?_
          refine AtL.assign (.inl rfl) rfl rfl ?_
          refine AtL.done ?_
          refine At.nil ?_
          exact At.ret Tryz.func198 rfl rfl (⟨_, _, _, _, (Own.nil tyB 5), by simp only [recL, recE, recB]; grind [ofInt_mod], by simp only [oneOf, recE]; grind, rfl⟩)
        · intro hc4
          have hc4 : ¬ (1024 < (l.length : Int)) := of_decide_eq_false hc4
          refine At.skip ?_
          refine At.inBlock ?_
          refine At.seq ?_
          refine At.region ?_
          refine AtL.move (.inl rfl) rfl rfl ?_
          refine AtL.lenL Tryz.underlying34 (.inl rfl) rfl rfl ?_
          refine AtL.call tf_body203 (.inl rfl) rfl rfl (put16_ok (l.length : Int) (by omega) (by omega)) ?_
          rintro _ _ ⟨A1, C2, s3, o4, rfl, rfl⟩
          refine AtL.move (.inl rfl) rfl rfl ?_
          refine AtL.extract (.inl rfl) rfl rfl rfl ?_
          refine AtL.extract (.inl rfl) rfl rfl rfl ?_
          refine AtL.assign (.inl rfl) rfl rfl ?_
          refine AtL.assign (.inl rfl) rfl rfl ?_
          refine AtL.done ?_
          refine At.seq ?_
          refine At.region ?_
          refine AtL.move (.inl rfl) rfl rfl ?_
          refine AtL.convInt (z := ((UInt8.ofInt k).toNat : Int)) Tryz.underlying3 Tryz.underlying5 (.inl rfl) rfl rfl (u8_conv _) ?_
          refine AtL.buildSlice (cs := [.int .u8 ((UInt8.ofInt k).toNat : Int)]) Tryz.underlying34 tf_zero5 tf_sz5 rfl rfl (.inl rfl) rfl rfl rfl ?_
          intro b5
          refine AtL.own1 tyB (l := ([(UInt8.ofInt k)] : List UInt8)) rfl rfl (by first | decide | simp) ?_
          intro s6 o7
          refine AtL.move (.inl rfl) rfl rfl ?_
          refine AtL.move (.inl rfl) rfl rfl ?_
          refine AtL.buildSlice (cs := [.slice (some ⟨b5, 0, none⟩) [(UInt8.ofInt k)].length 1, .slice A1 [UInt8.ofInt ((l.length : Int) / 256), UInt8.ofInt ((l.length : Int))].length C2, .slice A l.length C]) Tryz.underlying22 tf_zero34 tf_sz34 rfl rfl (.inl rfl) rfl rfl rfl ?_
          intro b8
          refine AtL.call tf_body44 (.inl rfl) rfl rfl (concat3 (o7.rd (i := 0) rfl) (o4.rd (i := 1) rfl) (Rd.skip 2 h) (by first | omega | (simp only [List.length_append, List.length_cons, List.length_nil]; omega) | (simp; done) | (simp; omega))) ?_
          rintro _ _ ⟨A9, C10, s11, o12, rfl, rfl⟩
          refine AtL.assign (.inl rfl) rfl rfl ?_
          refine AtL.assign (.inl rfl) rfl rfl ?_
          refine AtL.done ?_
          refine At.pick (H' := s11 :: H) [0] 4 rfl rfl ?_
          exact At.ret Tryz.func198 rfl rfl (⟨_, _, _, _, o12, by simp only [recL, recE, recB]; grind [ofInt_mod], by simp only [oneOf, recE]; grind, rfl⟩)
    · intro hc1
      have hc1 : ¬ (((k : Int) < 1) ∨ (3 < (k : Int))) := of_decide_eq_false hc1
      refine At.seq ?_
      refine At.region ?_
      refine AtL.move (.inl rfl) rfl rfl ?_
      refine AtL.eqi (.inl rfl) rfl rfl rfl ?_
      refine AtL.move (.inl rfl) rfl rfl ?_
      refine AtL.join 4 (E' := [(21, .bool (decide (((k : Int) = 1) ∧ (¬ (l = [1]))))), (0, .int .i64 k), (1, .slice A l.length C)]) (H' := H) (fun J => ?_) ?_
      · refine AtL.split (t := 17) rfl ?_ ?_
        · intro hs17
          have hs17 : (k : Int) = 1 := of_decide_eq_true hs17
          refine AtL.move (.inr ⟨_, _, _, rfl, rfl, rfl, rfl⟩) rfl rfl ?_
          refine AtL.strOf h Tryz.underlying34 Tryz.underlying5 Tryz.underlying9 (.inr ⟨_, _, _, rfl, rfl, rfl, rfl⟩) rfl rfl ?_
          refine AtL.nes (a := l) (b := [1]) (.inr ⟨_, _, _, rfl, rfl, rfl, rfl⟩) rfl rfl rfl ?_
          refine AtL.pickT (.inl rfl) rfl rfl rfl ?_
          exact J _ (by exact ⟨(boolIs (by clear J; first | (simp [hs17]; done) | (simp_all; done) | grind)), rfl, rfl, trivial⟩)
        · intro hs17
          have hs17 : ¬ ((k : Int) = 1) := of_decide_eq_false hs17
          refine AtL.skipped rfl rfl rfl rfl rfl rfl ?_
          refine AtL.skipped rfl rfl rfl rfl rfl rfl ?_
          refine AtL.skipped rfl rfl rfl rfl rfl rfl ?_
          refine AtL.pickF (.inl rfl) rfl rfl rfl ?_
          exact J _ (by exact ⟨(boolIs (by clear J; first | (simp [hs17]; done) | (simp_all; done) | grind)), rfl, rfl, trivial⟩)
      · skip
        refine AtL.assign (.inl rfl) rfl rfl ?_
        refine AtL.done ?_
        refine At.cond rfl ?_ ?_
        · intro hc2
          have hc2 : ((k : Int) = 1) ∧ (¬ (l = [1])) := of_decide_eq_true hc2
          refine At.skip ?_
          refine At.cond rfl ?_ ?_
          · intro hc3
            have hc3 : ((k : Int) = 1) ∧ (¬ (l = [1])) := of_decide_eq_true hc3
            refine At.seq ?_
            refine At.region ?_
            refine AtL.assign (.inl rfl) rfl rfl ?_
            refine AtL.assign (.inl rfl) rfl rfl ?_
            refine AtL.done ?_
            refine At.nil ?_
            exact At.ret Tryz.func198 rfl rfl (⟨_, _, _, _, (Own.nil tyB 5), by simp only [recL, recE, recB]; grind [ofInt_mod], by simp only [oneOf, recE]; grind, rfl⟩)
          · intro hc3
            have hc3 : ¬ (((k : Int) = 1) ∧ (¬ (l = [1]))) := of_decide_eq_false hc3
            refine At.seq ?_
            refine At.region ?_
            refine AtL.move (.inl rfl) rfl rfl ?_
            refine AtL.lenL Tryz.underlying34 (.inl rfl) rfl rfl ?_
            refine AtL.gtr (.inl rfl) rfl rfl rfl ?_
            refine AtL.assign (.inl rfl) rfl rfl ?_
            refine AtL.done ?_
            refine At.cond rfl ?_ ?_
            · intro hc4
              have hc4 : 1024 < (l.length : Int) := of_decide_eq_true hc4
              refine At.seq ?_
              refine At.region ?_
              refine AtL.assign (.inl rfl) rfl rfl ?_
              refine AtL.assign (.inl rfl) rfl rfl ?_
              refine AtL.done ?_
              refine At.nil ?_
              exact At.ret Tryz.func198 rfl rfl (⟨_, _, _, _, (Own.nil tyB 5), by simp only [recL, recE, recB]; grind [ofInt_mod], by simp only [oneOf, recE]; grind, rfl⟩)
            · intro hc4
              have hc4 : ¬ (1024 < (l.length : Int)) := of_decide_eq_false hc4
              refine At.skip ?_
              refine At.inBlock ?_
              refine At.seq ?_
              refine At.region ?_
              refine AtL.move (.inl rfl) rfl rfl ?_
              refine AtL.lenL Tryz.underlying34 (.inl rfl) rfl rfl ?_
              refine AtL.call tf_body203 (.inl rfl) rfl rfl (put16_ok (l.length : Int) (by omega) (by omega)) ?_
              rintro _ _ ⟨A13, C14, s15, o16, rfl, rfl⟩
              refine AtL.move (.inl rfl) rfl rfl ?_
              refine AtL.extract (.inl rfl) rfl rfl rfl ?_
              refine AtL.extract (.inl rfl) rfl rfl rfl ?_
              refine AtL.assign (.inl rfl) rfl rfl ?_
              refine AtL.assign (.inl rfl) rfl rfl ?_
              refine AtL.done ?_
              refine At.seq ?_
              refine At.region ?_
              refine AtL.move (.inl rfl) rfl rfl ?_
              refine AtL.convInt (z := ((UInt8.ofInt k).toNat : Int)) Tryz.underlying3 Tryz.underlying5 (.inl rfl) rfl rfl (u8_conv _) ?_
              refine AtL.buildSlice (cs := [.int .u8 ((UInt8.ofInt k).toNat : Int)]) Tryz.underlying34 tf_zero5 tf_sz5 rfl rfl (.inl rfl) rfl rfl rfl ?_
              intro b17
              refine AtL.own1 tyB (l := ([(UInt8.ofInt k)] : List UInt8)) rfl rfl (by first | decide | simp) ?_
              intro s18 o19
              refine AtL.move (.inl rfl) rfl rfl ?_
              refine AtL.move (.inl rfl) rfl rfl ?_
              refine AtL.buildSlice (cs := [.slice (some ⟨b17, 0, none⟩) [(UInt8.ofInt k)].length 1, .slice A13 [UInt8.ofInt ((l.length : Int) / 256), UInt8.ofInt ((l.length : Int))].length C14, .slice A l.length C]) Tryz.underlying22 tf_zero34 tf_sz34 rfl rfl (.inl rfl) rfl rfl rfl ?_
              intro b20
              refine AtL.call tf_body44 (.inl rfl) rfl rfl (concat3 (o19.rd (i := 0) rfl) (o16.rd (i := 1) rfl) (Rd.skip 2 h) (by first | omega | (simp only [List.length_append, List.length_cons, List.length_nil]; omega) | (simp; done) | (simp; omega))) ?_
              rintro _ _ ⟨A21, C22, s23, o24, rfl, rfl⟩
              refine AtL.assign (.inl rfl) rfl rfl ?_
              refine AtL.assign (.inl rfl) rfl rfl ?_
              refine AtL.done ?_
              refine At.pick (H' := s23 :: H) [0] 4 rfl rfl ?_
              exact At.ret Tryz.func198 rfl rfl (⟨_, _, _, _, o24, by simp only [recL, recE, recB]; grind [ofInt_mod], by simp only [oneOf, recE]; grind, rfl⟩)
        · intro hc2
          have hc2 : ¬ (((k : Int) = 1) ∧ (¬ (l = [1]))) := of_decide_eq_false hc2
          refine At.region ?_
          refine AtL.move (.inl rfl) rfl rfl ?_
          refine AtL.eqi (.inl rfl) rfl rfl rfl ?_
          refine AtL.move (.inl rfl) rfl rfl ?_
          refine AtL.join 4 (E' := [(28, .bool (decide (((k : Int) = 3) ∧ (0 < (l.length : Int))))), (0, .int .i64 k), (1, .slice A l.length C)]) (H' := H) (fun J => ?_) ?_
          · refine AtL.split (t := 24) rfl ?_ ?_
            · intro hs24
              have hs24 : (k : Int) = 3 := of_decide_eq_true hs24
              refine AtL.move (.inr ⟨_, _, _, rfl, rfl, rfl, rfl⟩) rfl rfl ?_
              refine AtL.lenL Tryz.underlying34 (.inr ⟨_, _, _, rfl, rfl, rfl, rfl⟩) rfl rfl ?_
              refine AtL.gtr (.inr ⟨_, _, _, rfl, rfl, rfl, rfl⟩) rfl rfl rfl ?_
              refine AtL.pickT (.inl rfl) rfl rfl rfl ?_
              exact J _ (by exact ⟨(boolIs (by clear J; first | (simp [hs24]; done) | (simp_all; done) | grind)), rfl, rfl, trivial⟩)
            · intro hs24
              have hs24 : ¬ ((k : Int) = 3) := of_decide_eq_false hs24
              refine AtL.skipped rfl rfl rfl rfl rfl rfl ?_
              refine AtL.skipped rfl rfl rfl rfl rfl rfl ?_
              refine AtL.skipped rfl rfl rfl rfl rfl rfl ?_
              refine AtL.pickF (.inl rfl) rfl rfl rfl ?_
              exact J _ (by exact ⟨(boolIs (by clear J; first | (simp [hs24]; done) | (simp_all; done) | grind)), rfl, rfl, trivial⟩)
          · skip
            refine AtL.assign (.inl rfl) rfl rfl ?_
            refine AtL.done ?_
            refine At.cond rfl ?_ ?_
            · intro hc3
              have hc3 : ((k : Int) = 3) ∧ (0 < (l.length : Int)) := of_decide_eq_true hc3
              refine At.seq ?_
              refine At.region ?_
              refine AtL.assign (.inl rfl) rfl rfl ?_
              refine AtL.assign (.inl rfl) rfl rfl ?_
              refine AtL.done ?_
              refine At.nil ?_
              exact At.ret Tryz.func198 rfl rfl (⟨_, _, _, _, (Own.nil tyB 5), by simp only [recL, recE, recB]; grind [ofInt_mod], by simp only [oneOf, recE]; grind, rfl⟩)
            · intro hc3
              have hc3 : ¬ (((k : Int) = 3) ∧ (0 < (l.length : Int))) := of_decide_eq_false hc3
              refine At.seq ?_
              refine At.region ?_
              refine AtL.move (.inl rfl) rfl rfl ?_
              refine AtL.lenL Tryz.underlying34 (.inl rfl) rfl rfl ?_
              refine AtL.gtr (.inl rfl) rfl rfl rfl ?_
              refine AtL.assign (.inl rfl) rfl rfl ?_
              refine AtL.done ?_
              refine At.cond rfl ?_ ?_
              · intro hc4
                have hc4 : 1024 < (l.length : Int) := of_decide_eq_true hc4
                refine At.seq ?_
                refine At.region ?_
                refine AtL.assign (.inl rfl) rfl rfl ?_
                refine AtL.assign (.inl rfl) rfl rfl ?_
                refine AtL.done ?_
                refine At.nil ?_
                exact At.ret Tryz.func198 rfl rfl (⟨_, _, _, _, (Own.nil tyB 5), by simp only [recL, recE, recB]; grind [ofInt_mod], by simp only [oneOf, recE]; grind, rfl⟩)
              · intro hc4
                have hc4 : ¬ (1024 < (l.length : Int)) := of_decide_eq_false hc4
                refine At.skip ?_
                refine At.inBlock ?_
                refine At.seq ?_
                refine At.region ?_
                refine AtL.move (.inl rfl) rfl rfl ?_
                refine AtL.lenL Tryz.underlying34 (.inl rfl) rfl rfl ?_
                refine AtL.call tf_body203 (.inl rfl) rfl rfl (put16_ok (l.length : Int) (by omega) (by omega)) ?_
                rintro _ _ ⟨A25, C26, s27, o28, rfl, rfl⟩
                refine AtL.move (.inl rfl) rfl rfl ?_
                refine AtL.extract (.inl rfl) rfl rfl rfl ?_
                refine AtL.extract (.inl rfl) rfl rfl rfl ?_
                refine AtL.assign (.inl rfl) rfl rfl ?_
                refine AtL.assign (.inl rfl) rfl rfl ?_
                refine AtL.done ?_
                refine At.seq ?_
                refine At.region ?_
                refine AtL.move (.inl rfl) rfl rfl ?_
                refine AtL.convInt (z := ((UInt8.ofInt k).toNat : Int)) Tryz.underlying3 Tryz.underlying5 (.inl rfl) rfl rfl (u8_conv _) ?_
                refine AtL.buildSlice (cs := [.int .u8 ((UInt8.ofInt k).toNat : Int)]) Tryz.underlying34 tf_zero5 tf_sz5 rfl rfl (.inl rfl) rfl rfl rfl ?_
                intro b29
                refine AtL.own1 tyB (l := ([(UInt8.ofInt k)] : List UInt8)) rfl rfl (by first | decide | simp) ?_
                intro s30 o31
                refine AtL.move (.inl rfl) rfl rfl ?_
                refine AtL.move (.inl rfl) rfl rfl ?_
                refine AtL.buildSlice (cs := [.slice (some ⟨b29, 0, none⟩) [(UInt8.ofInt k)].length 1, .slice A25 [UInt8.ofInt ((l.length : Int) / 256), UInt8.ofInt ((l.length : Int))].length C26, .slice A l.length C]) Tryz.underlying22 tf_zero34 tf_sz34 rfl rfl (.inl rfl) rfl rfl rfl ?_
                intro b32
                refine AtL.call tf_body44 (.inl rfl) rfl rfl (concat3 (o31.rd (i := 0) rfl) (o28.rd (i := 1) rfl) (Rd.skip 2 h) (by first | omega | (simp only [List.length_append, List.length_cons, List.length_nil]; omega) | (simp; done) | (simp; omega))) ?_
                rintro _ _ ⟨A33, C34, s35, o36, rfl, rfl⟩
                refine AtL.assign (.inl rfl) rfl rfl ?_
                refine AtL.assign (.inl rfl) rfl rfl ?_
                refine AtL.done ?_
                refine At.pick (H' := s35 :: H) [0] 4 rfl rfl ?_
                exact At.ret Tryz.func198 rfl rfl (⟨_, _, _, _, o36, by simp only [recL, recE, recB]; grind [ofInt_mod], by simp only [oneOf, recE]; grind, rfl⟩)
end Go.Proofs.YtbfabhdfmoiabaaGreatDoor
namespace Go.Proofs.YtbfabhdfmoiabaaGreatDoor
set_option linter.unusedVariables false
set_option linter.unusedSimpArgs false
set_option maxRecDepth 100000
set_option maxHeartbeats 400000 in
theorem kind_ok {w0 : World} {base : Nat} {H : List Seg} {A : Option Addr} {C : Nat} {l : List UInt8} (h : Rd tyB w0 base H A C l) (hl : 0 < l.length) :
    SCalls Tryz.prog 205 [.slice A l.length C] w0 base (H) (fun v H' => v = int (l.getD 0 0).toNat ∧ H' = H) := by
  refine SCalls.of_walk (n := 7) Tryz.func205 rfl rfl rfl fun cs => ?_
  refine At.seq ?_
  refine At.region ?_
  refine AtL.assign (.inl rfl) rfl rfl ?_
  refine AtL.done ?_
  refine At.seq ?_
  refine At.region ?_
  refine AtL.move (.inl rfl) rfl rfl ?_
  refine AtL.indexL 0 h Tryz.underlying85 tf_sz5 (.inl rfl) rfl rfl rfl rfl (by omega) ?_
  refine AtL.load (v := .int .u8 ((l.getD 0 0).toNat : Int)) tf_flat5 (.inl rfl) rfl rfl (Rd.cell0 h (getD_some 0 (by omega)) rfl) ?_
  have hB1 := u8_le ((l.getD 0 0))
  refine AtL.convInt (z := ((l.getD 0 0).toNat : Int)) Tryz.underlying5 Tryz.underlying3 (.inl rfl) rfl rfl (u8_i64 _) ?_
  refine AtL.assign (.inl rfl) rfl rfl ?_
  refine AtL.done ?_
  exact At.ret Tryz.func205 rfl rfl (⟨rfl, rfl⟩)
theorem size_is (l : List UInt8) : decide ((get16F l 1).2.2.1 = 0) = decide (3 ≤ l.length) := by
  unfold get16F
  by_cases h : l.length < 1 + 2
  · rw [if_pos h, decide_eq_false (show ¬ 3 ≤ l.length by omega)]
    by_cases h2 : l.length < 1 <;> simp [h2]
  · rw [if_neg h, decide_eq_true (show 3 ≤ l.length by omega)]
    simp
theorem size_n (l : List UInt8) : (get16F l 1).1 = ((if 3 ≤ l.length then 256 * (l.getD 1 0).toNat + (l.getD 2 0).toNat else 0 : Nat) : Int) := by
  unfold get16F
  by_cases h : l.length < 1 + 2
  · rw [if_pos h, if_neg (show ¬ 3 ≤ l.length by omega)]; rfl
  · rw [if_neg h, if_pos (show 3 ≤ l.length by omega)]; simp
set_option maxHeartbeats 400000 in
theorem size_ok {w0 : World} {base : Nat} {H : List Seg} {A : Option Addr} {C : Nat} {l : List UInt8} (h : Rd tyB w0 base H A C l) (hl : l.length ≤ 140737488355000) :
    SCalls Tryz.prog 206 [.slice A l.length C] w0 base (H) (fun v H' => ∃ n : Nat, ∃ z : Bool, z = decide (3 ≤ l.length) ∧ n = (if 3 ≤ l.length then 256 * (l.getD 1 0).toNat + (l.getD 2 0).toNat else 0) ∧ v = .tuple #[int (n : Int), .bool z] ∧ H' = H) := by
  refine SCalls.of_walk (n := 17) Tryz.func206 rfl rfl rfl fun cs => ?_
  refine At.seq ?_
  refine At.region ?_
  refine AtL.assign (.inl rfl) rfl rfl ?_
  refine AtL.assign (.inl rfl) rfl rfl ?_
  refine AtL.done ?_
  refine At.seq ?_
  refine At.region ?_
  refine AtL.move (.inl rfl) rfl rfl ?_
  refine AtL.call tf_body209 (.inl rfl) rfl rfl (get16_ok (l := l) h 1 (by omega) (by omega)) ?_
  rintro _ _ ⟨rfl, hHq⟩
  obtain rfl := hHq.symm
  refine AtL.move (.inl rfl) rfl rfl ?_
  refine AtL.extract (.inl rfl) rfl rfl rfl ?_
  refine AtL.extract (.inl rfl) rfl rfl rfl ?_
  refine AtL.extract (.inl rfl) rfl rfl rfl ?_
  refine AtL.alloc tf_zero284 (cs := #[.int .i64 0, .int .i64 0]) rfl (.inl rfl) rfl ?_
  intro b1
  refine AtL.assign (.inl rfl) rfl rfl ?_
  refine AtL.assign (.inl rfl) rfl rfl ?_
  refine AtL.store (H' := [(b1, .cells #[.int .i64 ((get16F l 1).2.2.1), .int .i64 ((get16F l 1).2.2.2)] 284 (0, 0))] :: H) 0 0 tf_sz284 (.inl rfl) rfl rfl rfl rfl rfl rfl rfl rfl rfl ?_
  refine AtL.done ?_
  refine At.seq ?_
  refine At.draw (es := []) (pv := [(0, .int .i64 ((get16F l 1).1)), (1, .pointer (some ⟨b1, 0, none⟩)), (2, .int .i64 ((get16F l 1).2.2.1)), (3, .bool (decide (((get16F l 1).2.2.1 : Int) = 0))), (4, .int .i64 ((get16F l 1).1)), (5, .bool (decide (((get16F l 1).2.2.1 : Int) = 0)))]) tf_mixed (by kernel_rfl) (by kernel_rfl) (by kernel_rfl) ?_
  refine ⟨⟨.inr ⟨_, rfl, rfl, .inl ⟨rfl, Do.move rfl⟩⟩, .inr ⟨_, rfl, rfl, .inl ⟨rfl, Do.fieldAddrB tf_fo284_0 rfl rfl⟩⟩, .inr ⟨_, rfl, rfl, .inl ⟨rfl, Do.load tf_flat26 rfl (Cell.own 0 0 rfl rfl rfl)⟩⟩, .inr ⟨_, rfl, rfl, .inl ⟨rfl, Do.eqi rfl rfl⟩⟩, .inr ⟨_, rfl, rfl, .inl ⟨rfl, Do.assign rfl⟩⟩, .inr ⟨_, rfl, rfl, .inl ⟨rfl, Do.assign rfl⟩⟩, trivial⟩, by kernel_rfl, ?_⟩
  refine At.mono (E' := [(2, .int .i64 ((get16F l 1).1)), (3, .bool (decide (((get16F l 1).2.2.1 : Int) = 0)))]) ⟨rfl, rfl, trivial⟩ ?_
  refine At.pick (H' := H) [] 1 rfl rfl ?_
  exact At.ret Tryz.func206 rfl rfl (⟨_, _, rfl, rfl, by rw [size_is, size_n]; rfl, rfl⟩)
set_option maxHeartbeats 400000 in
theorem one_ok {w0 : World} {base : Nat} {H : List Seg} {b : Nat} {y : Sl tyB 5} {hello out gr sh : Bool} (hl : y.l.length ≤ 140737488355000) :
    SCalls Tryz.prog 201 [.pointer (some ⟨b, 0, none⟩)] w0 base (y.s :: [(b, .cells #[.slice y.A y.l.length y.C, .bool hello, .bool false, .bool out, .bool gr, .bool sh] 87 (0, 0))] :: H) (fun v H' => ∃ A' C', Rd tyB w0 base H' A' C' (oneF hello y.l).x ∧ v = .tuple #[.slice A' (oneF hello y.l).x.length C', int (oneF hello y.l).n, int (oneF hello y.l).e] ∧ H' = y.s :: [(b, .cells #[.slice y.A y.l.length y.C, .bool ((oneF hello y.l).h), .bool ((oneF hello y.l).off), .bool out, .bool gr, .bool sh] 87 (0, 0))] :: H) := by
  refine SCalls.of_walk (n := 95) Tryz.func201 rfl rfl rfl fun cs => ?_
  refine At.seq ?_
  refine At.region ?_
  refine AtL.assign (.inl rfl) rfl rfl ?_
  refine AtL.assign (.inl rfl) rfl rfl ?_
  refine AtL.assign (.inl rfl) rfl rfl ?_
  refine AtL.done ?_
  refine At.seq ?_
  refine At.seq ?_
  refine At.region ?_
  refine AtL.move (.inl rfl) rfl rfl ?_
  refine AtL.nilCheck (.inl rfl) rfl rfl ?_
  refine AtL.fieldAddrB tf_fo87_0 (.inl rfl) rfl rfl rfl ?_
  refine AtL.load tf_flat85 (.inl rfl) rfl rfl (Cell.own 1 0 rfl rfl rfl) ?_
  refine AtL.lenL Tryz.underlying85 (.inl rfl) rfl rfl ?_
  refine AtL.eqi (.inl rfl) rfl rfl rfl ?_
  refine AtL.done ?_
  refine At.cond rfl ?_ ?_
  · intro hc1
    have hc1 : (y.l.length : Int) = 0 := of_decide_eq_true hc1
    refine At.seq ?_
    refine At.region ?_
    refine AtL.assign (.inl rfl) rfl rfl ?_
    refine AtL.assign (.inl rfl) rfl rfl ?_
    refine AtL.assign (.inl rfl) rfl rfl ?_
    refine AtL.done ?_
    exact At.ret Tryz.func201 rfl rfl (⟨none, 0, by rw [show (oneF hello y.l).x = [] from by grind [oneF]]; exact Rd.nil_, by grind [oneF, oneOf], by grind [oneF]⟩)
  · intro hc1
    have hc1 : ¬ ((y.l.length : Int) = 0) := of_decide_eq_false hc1
    refine At.skip ?_
    refine At.seq ?_
    refine At.region ?_
    refine AtL.move (.inl rfl) rfl rfl ?_
    refine AtL.nilCheck (.inl rfl) rfl rfl ?_
    refine AtL.fieldAddrB tf_fo87_0 (.inl rfl) rfl rfl rfl ?_
    refine AtL.load tf_flat85 (.inl rfl) rfl rfl (Cell.own 1 0 rfl rfl rfl) ?_
    refine AtL.call tf_body205 (.inl rfl) rfl rfl (kind_ok (l := y.l) (y.own.rd (i := 0) rfl) (by omega)) ?_
    rintro _ _ ⟨rfl, rfl⟩
    refine AtL.assign (.inl rfl) rfl rfl ?_
    refine AtL.done ?_
    refine At.seq ?_
    refine At.seq ?_
    refine At.region ?_
    refine AtL.move (.inl rfl) rfl rfl ?_
    refine AtL.lss (.inl rfl) rfl rfl rfl ?_
    refine AtL.move (.inl rfl) rfl rfl ?_
    refine AtL.join 3 (E' := [(24, .bool (decide ((((y.l.getD 0 0).toNat : Int) < 1) ∨ (3 < ((y.l.getD 0 0).toNat : Int))))), (0, .pointer (some ⟨b, 0, none⟩)), (5, .int .i64 ((y.l.getD 0 0).toNat : Int))]) (H' := y.s :: [(b, .cells #[.slice y.A y.l.length y.C, .bool hello, .bool false, .bool out, .bool gr, .bool sh] 87 (0, 0))] :: H) (fun J => ?_) ?_
    · refine AtL.split (t := 21) rfl ?_ ?_
      · intro hs21
        have hs21 : ((y.l.getD 0 0).toNat : Int) < 1 := of_decide_eq_true hs21
        refine AtL.skipped rfl rfl rfl rfl rfl rfl ?_
        refine AtL.skipped rfl rfl rfl rfl rfl rfl ?_
        refine AtL.pickT (.inl rfl) rfl rfl rfl ?_
        exact J _ (by exact ⟨(boolIs (by clear J; first | (simp [hs21]; done) | (simp_all; done) | grind)), rfl, rfl, trivial⟩)
      · intro hs21
        have hs21 : ¬ (((y.l.getD 0 0).toNat : Int) < 1) := of_decide_eq_false hs21
        refine AtL.move (.inr ⟨_, _, _, rfl, rfl, rfl, rfl⟩) rfl rfl ?_
        refine AtL.gtr (.inr ⟨_, _, _, rfl, rfl, rfl, rfl⟩) rfl rfl rfl ?_
        refine AtL.pickF (.inl rfl) rfl rfl rfl ?_
        exact J _ (by exact ⟨(boolIs (by clear J; first | (simp [hs21]; done) | (simp_all; done) | grind)), rfl, rfl, trivial⟩)
    · skip
      refine AtL.move (.inl rfl) rfl rfl ?_
      refine AtL.join 8 (E' := [(33, .bool (decide (((((y.l.getD 0 0).toNat : Int) < 1) ∨ (3 < ((y.l.getD 0 0).toNat : Int))) ∨ (((decide (((y.l.getD 0 0).toNat : Int) = 1)) == hello) = true)))), (0, .pointer (some ⟨b, 0, none⟩)), (5, .int .i64 ((y.l.getD 0 0).toNat : Int))]) (H' := y.s :: [(b, .cells #[.slice y.A y.l.length y.C, .bool hello, .bool false, .bool out, .bool gr, .bool sh] 87 (0, 0))] :: H) (fun J => ?_) ?_
      · refine AtL.split (t := 25) rfl ?_ ?_
        · intro hs25
          have hs25 : (((y.l.getD 0 0).toNat : Int) < 1) ∨ (3 < ((y.l.getD 0 0).toNat : Int)) := of_decide_eq_true hs25
          refine AtL.skipped rfl rfl rfl rfl rfl rfl ?_
          refine AtL.skipped rfl rfl rfl rfl rfl rfl ?_
          refine AtL.skipped rfl rfl rfl rfl rfl rfl ?_
          refine AtL.skipped rfl rfl rfl rfl rfl rfl ?_
          refine AtL.skipped rfl rfl rfl rfl rfl rfl ?_
          refine AtL.skipped rfl rfl rfl rfl rfl rfl ?_
          refine AtL.skipped rfl rfl rfl rfl rfl rfl ?_
          refine AtL.pickT (.inl rfl) rfl rfl rfl ?_
          exact J _ (by exact ⟨(boolIs (by clear J; first | (simp [hs25]; done) | (simp_all; done) | grind)), rfl, rfl, trivial⟩)
        · intro hs25
          have hs25 : ¬ ((((y.l.getD 0 0).toNat : Int) < 1) ∨ (3 < ((y.l.getD 0 0).toNat : Int))) := of_decide_eq_false hs25
          refine AtL.move (.inr ⟨_, _, _, rfl, rfl, rfl, rfl⟩) rfl rfl ?_
          refine AtL.eqi (.inr ⟨_, _, _, rfl, rfl, rfl, rfl⟩) rfl rfl rfl ?_
          refine AtL.move (.inr ⟨_, _, _, rfl, rfl, rfl, rfl⟩) rfl rfl ?_
          refine AtL.nilCheck (.inr ⟨_, _, _, rfl, rfl, rfl, rfl⟩) rfl rfl ?_
          refine AtL.fieldAddrB tf_fo87_1 (.inr ⟨_, _, _, rfl, rfl, rfl, rfl⟩) rfl rfl rfl ?_
          refine AtL.load tf_flat4 (.inr ⟨_, _, _, rfl, rfl, rfl, rfl⟩) rfl rfl (Cell.own 1 0 rfl rfl rfl) ?_
          refine AtL.eqb Tryz.underlying4 (.inr ⟨_, _, _, rfl, rfl, rfl, rfl⟩) rfl rfl rfl ?_
          refine AtL.pickF (.inl rfl) rfl rfl rfl ?_
          exact J _ (by exact ⟨(boolIs (by clear J; first | (simp [hs25]; done) | (simp_all; done) | grind)), rfl, rfl, trivial⟩)
      · skip
        refine AtL.done ?_
        refine At.cond rfl ?_ ?_
        · intro hc2
          have hc2 : ((((y.l.getD 0 0).toNat : Int) < 1) ∨ (3 < ((y.l.getD 0 0).toNat : Int))) ∨ (((decide (((y.l.getD 0 0).toNat : Int) = 1)) == hello) = true) := of_decide_eq_true hc2
          refine At.seq ?_
          refine At.region ?_
          refine AtL.assign (.inl rfl) rfl rfl ?_
          refine AtL.assign (.inl rfl) rfl rfl ?_
          refine AtL.assign (.inl rfl) rfl rfl ?_
          refine AtL.done ?_
          exact At.ret Tryz.func201 rfl rfl (⟨none, 0, by rw [show (oneF hello y.l).x = [] from by grind [oneF]]; exact Rd.nil_, by grind [oneF, oneOf], by grind [oneF]⟩)
        · intro hc2
          have hc2 : ¬ (((((y.l.getD 0 0).toNat : Int) < 1) ∨ (3 < ((y.l.getD 0 0).toNat : Int))) ∨ (((decide (((y.l.getD 0 0).toNat : Int) = 1)) == hello) = true)) := of_decide_eq_false hc2
          refine At.skip ?_
          refine At.seq ?_
          refine At.region ?_
          refine AtL.move (.inl rfl) rfl rfl ?_
          refine AtL.nilCheck (.inl rfl) rfl rfl ?_
          refine AtL.fieldAddrB tf_fo87_0 (.inl rfl) rfl rfl rfl ?_
          refine AtL.load tf_flat85 (.inl rfl) rfl rfl (Cell.own 1 0 rfl rfl rfl) ?_
          refine AtL.call tf_body206 (.inl rfl) rfl rfl (size_ok (l := y.l) (y.own.rd (i := 0) rfl) (by omega)) ?_
          rintro _ _ ⟨n1, z2, hz3, hn4, rfl, rfl⟩
          refine AtL.move (.inl rfl) rfl rfl ?_
          refine AtL.extract (.inl rfl) rfl rfl rfl ?_
          refine AtL.extract (.inl rfl) rfl rfl rfl ?_
          refine AtL.assign (.inl rfl) rfl rfl ?_
          refine AtL.assign (.inl rfl) rfl rfl ?_
          refine AtL.done ?_
          refine At.seq ?_
          refine At.block ?_
          refine At.seq ?_
          refine At.region ?_
          refine AtL.move (.inl rfl) rfl rfl ?_
          refine AtL.not (.inl rfl) rfl rfl ?_
          refine AtL.assign (.inl rfl) rfl rfl ?_
          refine AtL.done ?_
          refine At.cond rfl ?_ ?_
          · intro hc3
            have hc3 : z2 = false := bnot_true hc3
            refine At.seq ?_
            refine At.region ?_
            refine AtL.assign (.inl rfl) rfl rfl ?_
            refine AtL.assign (.inl rfl) rfl rfl ?_
            refine AtL.assign (.inl rfl) rfl rfl ?_
            refine AtL.done ?_
            exact At.ret Tryz.func201 rfl rfl (⟨none, 0, by rw [show (oneF hello y.l).x = [] from by grind [oneF]]; exact Rd.nil_, by grind [oneF, oneOf], by grind [oneF]⟩)
          · intro hc3
            have hc3 : z2 = true := bnot_false hc3
            refine At.seq ?_
            refine At.seq ?_
            refine At.region ?_
            refine AtL.move (.inl rfl) rfl rfl ?_
            refine AtL.eqi (.inl rfl) rfl rfl rfl ?_
            refine AtL.move (.inl rfl) rfl rfl ?_
            refine AtL.join 3 (E' := [(51, .bool (decide ((((y.l.getD 0 0).toNat : Int) = 1) ∧ (¬ ((n1 : Int) = 1))))), (0, .pointer (some ⟨b, 0, none⟩)), (5, .int .i64 ((y.l.getD 0 0).toNat : Int)), (6, .int .i64 (n1 : Int))]) (H' := y.s :: [(b, .cells #[.slice y.A y.l.length y.C, .bool hello, .bool false, .bool out, .bool gr, .bool sh] 87 (0, 0))] :: H) (fun J => ?_) ?_
            · refine AtL.split (t := 48) rfl ?_ ?_
              · intro hs48
                have hs48 : ((y.l.getD 0 0).toNat : Int) = 1 := of_decide_eq_true hs48
                refine AtL.move (.inr ⟨_, _, _, rfl, rfl, rfl, rfl⟩) rfl rfl ?_
                refine AtL.nei (.inr ⟨_, _, _, rfl, rfl, rfl, rfl⟩) rfl rfl rfl ?_
                refine AtL.pickT (.inl rfl) rfl rfl rfl ?_
                exact J _ (by exact ⟨(boolIs (by clear J; first | (simp [hs48]; done) | (simp_all; done) | grind)), rfl, rfl, rfl, trivial⟩)
              · intro hs48
                have hs48 : ¬ (((y.l.getD 0 0).toNat : Int) = 1) := of_decide_eq_false hs48
                refine AtL.skipped rfl rfl rfl rfl rfl rfl ?_
                refine AtL.skipped rfl rfl rfl rfl rfl rfl ?_
                refine AtL.pickF (.inl rfl) rfl rfl rfl ?_
                exact J _ (by exact ⟨(boolIs (by clear J; first | (simp [hs48]; done) | (simp_all; done) | grind)), rfl, rfl, rfl, trivial⟩)
            · skip
              refine AtL.assign (.inl rfl) rfl rfl ?_
              refine AtL.done ?_
              refine At.cond rfl ?_ ?_
              · intro hc4
                have hc4 : (((y.l.getD 0 0).toNat : Int) = 1) ∧ (¬ ((n1 : Int) = 1)) := of_decide_eq_true hc4
                refine At.skip ?_
                refine At.cond rfl ?_ ?_
                · intro hc5
                  have hc5 : (((y.l.getD 0 0).toNat : Int) = 1) ∧ (¬ ((n1 : Int) = 1)) := of_decide_eq_true hc5
                  refine At.seq ?_
                  refine At.region ?_
                  refine AtL.assign (.inl rfl) rfl rfl ?_
                  refine AtL.assign (.inl rfl) rfl rfl ?_
                  refine AtL.assign (.inl rfl) rfl rfl ?_
                  refine AtL.done ?_
                  exact At.ret Tryz.func201 rfl rfl (⟨none, 0, by rw [show (oneF hello y.l).x = [] from by grind [oneF]]; exact Rd.nil_, by grind [oneF, oneOf], by grind [oneF]⟩)
                · intro hc5
                  have hc5 : ¬ ((((y.l.getD 0 0).toNat : Int) = 1) ∧ (¬ ((n1 : Int) = 1))) := of_decide_eq_false hc5
                  refine At.seq ?_
                  refine At.region ?_
                  refine AtL.move (.inl rfl) rfl rfl ?_
                  refine AtL.gtr (.inl rfl) rfl rfl rfl ?_
                  refine AtL.assign (.inl rfl) rfl rfl ?_
                  refine AtL.done ?_
                  refine At.cond rfl ?_ ?_
                  · intro hc6
                    have hc6 : 1024 < (n1 : Int) := of_decide_eq_true hc6
                    refine At.seq ?_
                    refine At.region ?_
                    refine AtL.assign (.inl rfl) rfl rfl ?_
                    refine AtL.assign (.inl rfl) rfl rfl ?_
                    refine AtL.assign (.inl rfl) rfl rfl ?_
                    refine AtL.done ?_
                    exact At.ret Tryz.func201 rfl rfl (⟨none, 0, by rw [show (oneF hello y.l).x = [] from by grind [oneF]]; exact Rd.nil_, by grind [oneF, oneOf], by grind [oneF]⟩)
                  · intro hc6
                    have hc6 : ¬ (1024 < (n1 : Int)) := of_decide_eq_false hc6
                    refine At.seq ?_
                    refine At.region ?_
                    refine AtL.move (.inl rfl) rfl rfl ?_
                    refine AtL.nilCheck (.inl rfl) rfl rfl ?_
                    refine AtL.fieldAddrB tf_fo87_0 (.inl rfl) rfl rfl rfl ?_
                    refine AtL.load tf_flat85 (.inl rfl) rfl rfl (Cell.own 1 0 rfl rfl rfl) ?_
                    refine AtL.lenL Tryz.underlying85 (.inl rfl) rfl rfl ?_
                    refine AtL.move (.inl rfl) rfl rfl ?_
                    refine AtL.add (z := 3 + (n1 : Int)) (.inl rfl) rfl rfl rfl (w64 (by omega) (by omega)) ?_
                    refine AtL.lss (.inl rfl) rfl rfl rfl ?_
                    refine AtL.assign (.inl rfl) rfl rfl ?_
                    refine AtL.done ?_
                    refine At.cond rfl ?_ ?_
                    · intro hc7
                      have hc7 : (y.l.length : Int) < (3 + (n1 : Int)) := of_decide_eq_true hc7
                      refine At.seq ?_
                      refine At.region ?_
                      refine AtL.assign (.inl rfl) rfl rfl ?_
                      refine AtL.assign (.inl rfl) rfl rfl ?_
                      refine AtL.assign (.inl rfl) rfl rfl ?_
                      refine AtL.done ?_
                      exact At.ret Tryz.func201 rfl rfl (⟨none, 0, by rw [show (oneF hello y.l).x = [] from by grind [oneF]]; exact Rd.nil_, by grind [oneF, oneOf], by grind [oneF]⟩)
                    · intro hc7
                      have hc7 : ¬ ((y.l.length : Int) < (3 + (n1 : Int))) := of_decide_eq_false hc7
                      refine At.skip ?_
                      refine At.inBlock ?_
                      refine At.seq ?_
                      refine At.region ?_
                      refine AtL.move (.inl rfl) rfl rfl ?_
                      refine AtL.nilCheck (.inl rfl) rfl rfl ?_
                      refine AtL.fieldAddrB tf_fo87_0 (.inl rfl) rfl rfl rfl ?_
                      refine AtL.load tf_flat85 (.inl rfl) rfl rfl (Cell.own 1 0 rfl rfl rfl) ?_
                      refine AtL.move (.inl rfl) rfl rfl ?_
                      refine AtL.add (z := 3 + (n1 : Int)) (.inl rfl) rfl rfl rfl (w64 (by omega) (by omega)) ?_
                      have hleo7 := Own.le_cap y.own
                      refine AtL.sliceO 3 (3 + n1) y.C y.own (evBound_some rfl rfl) (evBound_some rfl rfl) rfl (by intro h; cases h) (by omega) (by omega) (by omega) (Nat.le_refl _) Tryz.underlying85 tf_sz5 (.inl rfl) rfl rfl ?_
                      intro A5 C6 o7
                      clear hleo7
                      have hlo7 : (subl y.l 3 (3 + n1)).length = (3 + n1) - 3 := subl_len (by omega)
                      refine AtL.assign (.inl rfl) rfl rfl ?_
                      refine AtL.done ?_
                      refine At.seq ?_
                      refine At.seq ?_
                      refine At.region ?_
                      refine AtL.move (.inl rfl) rfl rfl ?_
                      refine AtL.done ?_
                      refine At.block ?_
                      refine At.seq ?_
                      refine At.region ?_
                      refine AtL.eqi (.inl rfl) rfl rfl rfl ?_
                      refine AtL.assign (.inl rfl) rfl rfl ?_
                      refine AtL.done ?_
                      refine At.cond rfl ?_ ?_
                      · intro hc8
                        have hc8 : ((y.l.getD 0 0).toNat : Int) = 1 := of_decide_eq_true hc8
                        refine At.seq ?_
                        refine At.seq ?_
                        refine At.region ?_
                        refine AtL.move (.inl rfl) rfl rfl ?_
                        refine AtL.indexL 0 (o7.rd (i := 0) rfl) Tryz.underlying34 tf_sz5 (.inl rfl) rfl rfl rfl rfl (by omega) ?_
                        refine AtL.load (v := .int .u8 (((subl y.l 3 (3 + n1)).getD 0 0).toNat : Int)) tf_flat5 (.inl rfl) rfl rfl (Rd.cell0 (o7.rd (i := 0) rfl) (getD_some 0 (by omega)) rfl) ?_
                        refine AtL.nei (.inl rfl) rfl rfl rfl ?_
                        refine AtL.done ?_
                        refine At.cond rfl ?_ ?_
                        · intro hc9
                          have hc9 : ¬ ((((subl y.l 3 (3 + n1)).getD 0 0).toNat : Int) = 1) := of_decide_eq_false (bnot_true hc9)
                          refine At.seq ?_
                          refine At.region ?_
                          refine AtL.assign (.inl rfl) rfl rfl ?_
                          refine AtL.assign (.inl rfl) rfl rfl ?_
                          refine AtL.assign (.inl rfl) rfl rfl ?_
                          refine AtL.done ?_
                          have hg := subl_gets (l := y.l) (i := 3) (j := 3 + n1) (k := 0) (by omega)
                          exact At.ret Tryz.func201 rfl rfl (⟨none, 0, by rw [show (oneF hello y.l).x = [] from by grind [oneF]]; exact Rd.nil_, by grind [oneF, oneOf], by grind [oneF]⟩)
                        · intro hc9
                          have hc9 : (((subl y.l 3 (3 + n1)).getD 0 0).toNat : Int) = 1 := of_decide_eq_true (bnot_false hc9)
                          refine At.skip ?_
                          refine At.region ?_
                          refine AtL.move (.inl rfl) rfl rfl ?_
                          refine AtL.nilCheck (.inl rfl) rfl rfl ?_
                          refine AtL.fieldAddrB tf_fo87_1 (.inl rfl) rfl rfl rfl ?_
                          refine AtL.store (H' := y.s :: [(b, .cells #[.slice y.A y.l.length y.C, .bool true, .bool false, .bool out, .bool gr, .bool sh] 87 (0, 0))] :: H) 1 0 tf_sz4 (.inl rfl) rfl rfl rfl rfl rfl rfl rfl rfl rfl ?_
                          refine AtL.assign (.inl rfl) rfl rfl ?_
                          refine AtL.done ?_
                          refine At.inBlock ?_
                          refine At.seq ?_
                          refine At.region ?_
                          refine AtL.move (.inl rfl) rfl rfl ?_
                          refine AtL.move (.inl rfl) rfl rfl ?_
                          refine AtL.add (z := 3 + (n1 : Int)) (.inl rfl) rfl rfl rfl (w64 (by omega) (by omega)) ?_
                          refine AtL.assign (.inl rfl) rfl rfl ?_
                          refine AtL.assign (.inl rfl) rfl rfl ?_
                          refine AtL.assign (.inl rfl) rfl rfl ?_
                          refine AtL.done ?_
                          have hg := subl_gets (l := y.l) (i := 3) (j := 3 + n1) (k := 0) (by omega)
                          exact At.ret Tryz.func201 rfl rfl (⟨none, 0, by rw [show (oneF hello y.l).x = [] from by grind [oneF]]; exact Rd.nil_, by grind [oneF, oneOf], by grind [oneF]⟩)
                      · intro hc8
                        have hc8 : ¬ (((y.l.getD 0 0).toNat : Int) = 1) := of_decide_eq_false hc8
                        refine At.seq ?_
                        refine At.region ?_
                        refine AtL.eqi (.inl rfl) rfl rfl rfl ?_
                        refine AtL.assign (.inl rfl) rfl rfl ?_
                        refine AtL.done ?_
                        refine At.cond rfl ?_ ?_
                        · intro hc10
                          have hc10 : ((y.l.getD 0 0).toNat : Int) = 3 := of_decide_eq_true hc10
                          refine At.region ?_
                          refine AtL.move (.inl rfl) rfl rfl ?_
                          refine AtL.nilCheck (.inl rfl) rfl rfl ?_
                          refine AtL.fieldAddrB tf_fo87_2 (.inl rfl) rfl rfl rfl ?_
                          refine AtL.store (H' := y.s :: [(b, .cells #[.slice y.A y.l.length y.C, .bool hello, .bool true, .bool out, .bool gr, .bool sh] 87 (0, 0))] :: H) 1 0 tf_sz4 (.inl rfl) rfl rfl rfl rfl rfl rfl rfl rfl rfl ?_
                          refine AtL.done ?_
                          refine At.inBlock ?_
                          refine At.seq ?_
                          refine At.region ?_
                          refine AtL.move (.inl rfl) rfl rfl ?_
                          refine AtL.move (.inl rfl) rfl rfl ?_
                          refine AtL.add (z := 3 + (n1 : Int)) (.inl rfl) rfl rfl rfl (w64 (by omega) (by omega)) ?_
                          refine AtL.assign (.inl rfl) rfl rfl ?_
                          refine AtL.assign (.inl rfl) rfl rfl ?_
                          refine AtL.assign (.inl rfl) rfl rfl ?_
                          refine AtL.done ?_
                          exact At.ret Tryz.func201 rfl rfl (⟨A5, C6, by rw [show (oneF hello y.l).x = subl y.l 3 (3 + n1) from by grind [oneF]]; exact (o7.rd (i := 0) rfl), by grind [oneF, oneOf], by grind [oneF]⟩)
                        · intro hc10
                          have hc10 : ¬ (((y.l.getD 0 0).toNat : Int) = 3) := of_decide_eq_false hc10
                          refine At.skip ?_
                          refine At.inBlock ?_
                          refine At.seq ?_
                          refine At.region ?_
                          refine AtL.move (.inl rfl) rfl rfl ?_
                          refine AtL.move (.inl rfl) rfl rfl ?_
                          refine AtL.add (z := 3 + (n1 : Int)) (.inl rfl) rfl rfl rfl (w64 (by omega) (by omega)) ?_
                          refine AtL.assign (.inl rfl) rfl rfl ?_
                          refine AtL.assign (.inl rfl) rfl rfl ?_
                          refine AtL.assign (.inl rfl) rfl rfl ?_
                          refine AtL.done ?_
                          exact At.ret Tryz.func201 rfl rfl (⟨A5, C6, by rw [show (oneF hello y.l).x = subl y.l 3 (3 + n1) from by grind [oneF]]; exact (o7.rd (i := 0) rfl), by grind [oneF, oneOf], by grind [oneF]⟩)
              · intro hc4
                have hc4 : ¬ ((((y.l.getD 0 0).toNat : Int) = 1) ∧ (¬ ((n1 : Int) = 1))) := of_decide_eq_false hc4
                refine At.region ?_
                refine AtL.move (.inl rfl) rfl rfl ?_
                refine AtL.eqi (.inl rfl) rfl rfl rfl ?_
                refine AtL.move (.inl rfl) rfl rfl ?_
                refine AtL.join 3 (E' := [(57, .bool (decide ((((y.l.getD 0 0).toNat : Int) = 3) ∧ (¬ ((n1 : Int) = 0))))), (0, .pointer (some ⟨b, 0, none⟩)), (5, .int .i64 ((y.l.getD 0 0).toNat : Int)), (6, .int .i64 (n1 : Int))]) (H' := y.s :: [(b, .cells #[.slice y.A y.l.length y.C, .bool hello, .bool false, .bool out, .bool gr, .bool sh] 87 (0, 0))] :: H) (fun J => ?_) ?_
                · refine AtL.split (t := 54) rfl ?_ ?_
                  · intro hs54
                    have hs54 : ((y.l.getD 0 0).toNat : Int) = 3 := of_decide_eq_true hs54
                    refine AtL.move (.inr ⟨_, _, _, rfl, rfl, rfl, rfl⟩) rfl rfl ?_
                    refine AtL.nei (.inr ⟨_, _, _, rfl, rfl, rfl, rfl⟩) rfl rfl rfl ?_
                    refine AtL.pickT (.inl rfl) rfl rfl rfl ?_
                    exact J _ (by exact ⟨(boolIs (by clear J; first | (simp [hs54]; done) | (simp_all; done) | grind)), rfl, rfl, rfl, trivial⟩)
                  · intro hs54
                    have hs54 : ¬ (((y.l.getD 0 0).toNat : Int) = 3) := of_decide_eq_false hs54
                    refine AtL.skipped rfl rfl rfl rfl rfl rfl ?_
                    refine AtL.skipped rfl rfl rfl rfl rfl rfl ?_
                    refine AtL.pickF (.inl rfl) rfl rfl rfl ?_
                    exact J _ (by exact ⟨(boolIs (by clear J; first | (simp [hs54]; done) | (simp_all; done) | grind)), rfl, rfl, rfl, trivial⟩)
                · skip
                  refine AtL.assign (.inl rfl) rfl rfl ?_
                  refine AtL.done ?_
                  refine At.cond rfl ?_ ?_
                  · intro hc5
                    have hc5 : (((y.l.getD 0 0).toNat : Int) = 3) ∧ (¬ ((n1 : Int) = 0)) := of_decide_eq_true hc5
                    refine At.seq ?_
                    refine At.region ?_
                    refine AtL.assign (.inl rfl) rfl rfl ?_
                    refine AtL.assign (.inl rfl) rfl rfl ?_
                    refine AtL.assign (.inl rfl) rfl rfl ?_
                    refine AtL.done ?_
                    exact At.ret Tryz.func201 rfl rfl (⟨none, 0, by rw [show (oneF hello y.l).x = [] from by grind [oneF]]; exact Rd.nil_, by grind [oneF, oneOf], by grind [oneF]⟩)
                  · intro hc5
                    have hc5 : ¬ ((((y.l.getD 0 0).toNat : Int) = 3) ∧ (¬ ((n1 : Int) = 0))) := of_decide_eq_false hc5
                    refine At.seq ?_
                    refine At.region ?_
                    refine AtL.move (.inl rfl) rfl rfl ?_
                    refine AtL.gtr (.inl rfl) rfl rfl rfl ?_
                    refine AtL.assign (.inl rfl) rfl rfl ?_
                    refine AtL.done ?_
                    refine At.cond rfl ?_ ?_
                    · intro hc6
                      have hc6 : 1024 < (n1 : Int) := of_decide_eq_true hc6
                      refine At.seq ?_
                      refine At.region ?_
                      refine AtL.assign (.inl rfl) rfl rfl ?_
                      refine AtL.assign (.inl rfl) rfl rfl ?_
                      refine AtL.assign (.inl rfl) rfl rfl ?_
                      refine AtL.done ?_
                      exact At.ret Tryz.func201 rfl rfl (⟨none, 0, by rw [show (oneF hello y.l).x = [] from by grind [oneF]]; exact Rd.nil_, by grind [oneF, oneOf], by grind [oneF]⟩)
                    · intro hc6
                      have hc6 : ¬ (1024 < (n1 : Int)) := of_decide_eq_false hc6
                      refine At.seq ?_
                      refine At.region ?_
                      refine AtL.move (.inl rfl) rfl rfl ?_
                      refine AtL.nilCheck (.inl rfl) rfl rfl ?_
                      refine AtL.fieldAddrB tf_fo87_0 (.inl rfl) rfl rfl rfl ?_
                      refine AtL.load tf_flat85 (.inl rfl) rfl rfl (Cell.own 1 0 rfl rfl rfl) ?_
                      refine AtL.lenL Tryz.underlying85 (.inl rfl) rfl rfl ?_
                      refine AtL.move (.inl rfl) rfl rfl ?_
                      refine AtL.add (z := 3 + (n1 : Int)) (.inl rfl) rfl rfl rfl (w64 (by omega) (by omega)) ?_
                      refine AtL.lss (.inl rfl) rfl rfl rfl ?_
                      refine AtL.assign (.inl rfl) rfl rfl ?_
                      refine AtL.done ?_
                      refine At.cond rfl ?_ ?_
                      · intro hc7
                        have hc7 : (y.l.length : Int) < (3 + (n1 : Int)) := of_decide_eq_true hc7
                        refine At.seq ?_
                        refine At.region ?_
                        refine AtL.assign (.inl rfl) rfl rfl ?_
                        refine AtL.assign (.inl rfl) rfl rfl ?_
                        refine AtL.assign (.inl rfl) rfl rfl ?_
                        refine AtL.done ?_
                        exact At.ret Tryz.func201 rfl rfl (⟨none, 0, by rw [show (oneF hello y.l).x = [] from by grind [oneF]]; exact Rd.nil_, by grind [oneF, oneOf], by grind [oneF]⟩)
                      · intro hc7
                        have hc7 : ¬ ((y.l.length : Int) < (3 + (n1 : Int))) := of_decide_eq_false hc7
                        refine At.skip ?_
                        refine At.inBlock ?_
                        refine At.seq ?_
                        refine At.region ?_
                        refine AtL.move (.inl rfl) rfl rfl ?_
                        refine AtL.nilCheck (.inl rfl) rfl rfl ?_
                        refine AtL.fieldAddrB tf_fo87_0 (.inl rfl) rfl rfl rfl ?_
                        refine AtL.load tf_flat85 (.inl rfl) rfl rfl (Cell.own 1 0 rfl rfl rfl) ?_
                        refine AtL.move (.inl rfl) rfl rfl ?_
                        refine AtL.add (z := 3 + (n1 : Int)) (.inl rfl) rfl rfl rfl (w64 (by omega) (by omega)) ?_
                        have hleo10 := Own.le_cap y.own
                        refine AtL.sliceO 3 (3 + n1) y.C y.own (evBound_some rfl rfl) (evBound_some rfl rfl) rfl (by intro h; cases h) (by omega) (by omega) (by omega) (Nat.le_refl _) Tryz.underlying85 tf_sz5 (.inl rfl) rfl rfl ?_
                        intro A8 C9 o10
                        clear hleo10
                        have hlo10 : (subl y.l 3 (3 + n1)).length = (3 + n1) - 3 := subl_len (by omega)
                        refine AtL.assign (.inl rfl) rfl rfl ?_
                        refine AtL.done ?_
                        refine At.seq ?_
                        refine At.seq ?_
                        refine At.region ?_
                        refine AtL.move (.inl rfl) rfl rfl ?_
                        refine AtL.done ?_
                        refine At.block ?_
                        refine At.seq ?_
                        refine At.region ?_
                        refine AtL.eqi (.inl rfl) rfl rfl rfl ?_
                        refine AtL.assign (.inl rfl) rfl rfl ?_
                        refine AtL.done ?_
                        refine At.cond rfl ?_ ?_
                        · intro hc8
                          have hc8 : ((y.l.getD 0 0).toNat : Int) = 1 := of_decide_eq_true hc8
                          refine At.seq ?_
                          refine At.seq ?_
                          refine At.region ?_
                          refine AtL.move (.inl rfl) rfl rfl ?_
                          refine AtL.indexL 0 (o10.rd (i := 0) rfl) Tryz.underlying34 tf_sz5 (.inl rfl) rfl rfl rfl rfl (by omega) ?_
                          refine AtL.load (v := .int .u8 (((subl y.l 3 (3 + n1)).getD 0 0).toNat : Int)) tf_flat5 (.inl rfl) rfl rfl (Rd.cell0 (o10.rd (i := 0) rfl) (getD_some 0 (by omega)) rfl) ?_
                          refine AtL.nei (.inl rfl) rfl rfl rfl ?_
                          refine AtL.done ?_
                          refine At.cond rfl ?_ ?_
                          · intro hc9
                            have hc9 : ¬ ((((subl y.l 3 (3 + n1)).getD 0 0).toNat : Int) = 1) := of_decide_eq_false (bnot_true hc9)
                            refine At.seq ?_
                            refine At.region ?_
                            refine AtL.assign (.inl rfl) rfl rfl ?_
                            refine AtL.assign (.inl rfl) rfl rfl ?_
                            refine AtL.assign (.inl rfl) rfl rfl ?_
                            refine AtL.done ?_
                            have hg := subl_gets (l := y.l) (i := 3) (j := 3 + n1) (k := 0) (by omega)
                            exact At.ret Tryz.func201 rfl rfl (⟨none, 0, by rw [show (oneF hello y.l).x = [] from by grind [oneF]]; exact Rd.nil_, by grind [oneF, oneOf], by grind [oneF]⟩)
                          · intro hc9
                            have hc9 : (((subl y.l 3 (3 + n1)).getD 0 0).toNat : Int) = 1 := of_decide_eq_true (bnot_false hc9)
                            refine At.skip ?_
                            refine At.region ?_
                            refine AtL.move (.inl rfl) rfl rfl ?_
                            refine AtL.nilCheck (.inl rfl) rfl rfl ?_
                            refine AtL.fieldAddrB tf_fo87_1 (.inl rfl) rfl rfl rfl ?_
                            refine AtL.store (H' := y.s :: [(b, .cells #[.slice y.A y.l.length y.C, .bool true, .bool false, .bool out, .bool gr, .bool sh] 87 (0, 0))] :: H) 1 0 tf_sz4 (.inl rfl) rfl rfl rfl rfl rfl rfl rfl rfl rfl ?_
                            refine AtL.assign (.inl rfl) rfl rfl ?_
                            refine AtL.done ?_
                            refine At.inBlock ?_
                            refine At.seq ?_
                            refine At.region ?_
                            refine AtL.move (.inl rfl) rfl rfl ?_
                            refine AtL.move (.inl rfl) rfl rfl ?_
                            refine AtL.add (z := 3 + (n1 : Int)) (.inl rfl) rfl rfl rfl (w64 (by omega) (by omega)) ?_
                            refine AtL.assign (.inl rfl) rfl rfl ?_
                            refine AtL.assign (.inl rfl) rfl rfl ?_
                            refine AtL.assign (.inl rfl) rfl rfl ?_
                            refine AtL.done ?_
                            have hg := subl_gets (l := y.l) (i := 3) (j := 3 + n1) (k := 0) (by omega)
                            exact At.ret Tryz.func201 rfl rfl (⟨none, 0, by rw [show (oneF hello y.l).x = [] from by grind [oneF]]; exact Rd.nil_, by grind [oneF, oneOf], by grind [oneF]⟩)
                        · intro hc8
                          have hc8 : ¬ (((y.l.getD 0 0).toNat : Int) = 1) := of_decide_eq_false hc8
                          refine At.seq ?_
                          refine At.region ?_
                          refine AtL.eqi (.inl rfl) rfl rfl rfl ?_
                          refine AtL.assign (.inl rfl) rfl rfl ?_
                          refine AtL.done ?_
                          refine At.cond rfl ?_ ?_
                          · intro hc10
                            have hc10 : ((y.l.getD 0 0).toNat : Int) = 3 := of_decide_eq_true hc10
                            refine At.region ?_
                            refine AtL.move (.inl rfl) rfl rfl ?_
                            refine AtL.nilCheck (.inl rfl) rfl rfl ?_
                            refine AtL.fieldAddrB tf_fo87_2 (.inl rfl) rfl rfl rfl ?_
                            refine AtL.store (H' := y.s :: [(b, .cells #[.slice y.A y.l.length y.C, .bool hello, .bool true, .bool out, .bool gr, .bool sh] 87 (0, 0))] :: H) 1 0 tf_sz4 (.inl rfl) rfl rfl rfl rfl rfl rfl rfl rfl rfl ?_
                            refine AtL.done ?_
                            refine At.inBlock ?_
                            refine At.seq ?_
                            refine At.region ?_
                            refine AtL.move (.inl rfl) rfl rfl ?_
                            refine AtL.move (.inl rfl) rfl rfl ?_
                            refine AtL.add (z := 3 + (n1 : Int)) (.inl rfl) rfl rfl rfl (w64 (by omega) (by omega)) ?_
                            refine AtL.assign (.inl rfl) rfl rfl ?_
                            refine AtL.assign (.inl rfl) rfl rfl ?_
                            refine AtL.assign (.inl rfl) rfl rfl ?_
                            refine AtL.done ?_
                            exact At.ret Tryz.func201 rfl rfl (⟨A8, C9, by rw [show (oneF hello y.l).x = subl y.l 3 (3 + n1) from by grind [oneF]]; exact (o10.rd (i := 0) rfl), by grind [oneF, oneOf], by grind [oneF]⟩)
                          · intro hc10
                            have hc10 : ¬ (((y.l.getD 0 0).toNat : Int) = 3) := of_decide_eq_false hc10
                            refine At.skip ?_
                            refine At.inBlock ?_
                            refine At.seq ?_
                            refine At.region ?_
                            refine AtL.move (.inl rfl) rfl rfl ?_
                            refine AtL.move (.inl rfl) rfl rfl ?_
                            refine AtL.add (z := 3 + (n1 : Int)) (.inl rfl) rfl rfl rfl (w64 (by omega) (by omega)) ?_
                            refine AtL.assign (.inl rfl) rfl rfl ?_
                            refine AtL.assign (.inl rfl) rfl rfl ?_
                            refine AtL.assign (.inl rfl) rfl rfl ?_
                            refine AtL.done ?_
                            exact At.ret Tryz.func201 rfl rfl (⟨A8, C9, by rw [show (oneF hello y.l).x = subl y.l 3 (3 + n1) from by grind [oneF]]; exact (o10.rd (i := 0) rfl), by grind [oneF, oneOf], by grind [oneF]⟩)
def pushS (h off out : Bool) (k l : List UInt8) : PushR := if out = true ∨ off = true then ⟨[], 9, k, h, off⟩ else pushF h (k ++ l)
def brokeS (h off out : Bool) (k l : List UInt8) : Bool := if out = true ∨ off = true then out else decide ((pushF h (k ++ l)).e ≠ 0)
theorem oneF_h {h : Bool} {l : List UInt8} (he : ¬ (oneF h l).e = 0) : (oneF h l).h = h ∧ (oneF h l).off = false := by
  revert he
  unfold oneF
  repeat' split
  all_goals simp
set_option maxHeartbeats 1000000 in
theorem push_ok {w0 : World} {base : Nat} {H : List Seg} {b : Nat} {y : Sl tyB 5} {hello off out gr sh : Bool} {A : Option Addr} {C : Nat} {l : List UInt8} (h : Rd tyB w0 base H A C l) (hl : y.l.length + l.length ≤ 140737488355000) :
    SCalls Tryz.prog 196 [.pointer (some ⟨b, 0, none⟩), .slice A l.length C] w0 base (y.s :: [(b, .cells #[.slice y.A y.l.length y.C, .bool hello, .bool off, .bool out, .bool gr, .bool sh] 87 (0, 0))] :: H) (fun v H' => ∃ x z : Sl tyB 5, x.l = (pushS hello off out y.l l).out ∧ z.l = (pushS hello off out y.l l).rest ∧ v = .tuple #[.slice x.A x.l.length x.C, int (pushS hello off out y.l l).e] ∧ H' = x.s :: z.s :: [(b, .cells #[.slice z.A z.l.length z.C, .bool ((pushS hello off out y.l l).h), .bool ((pushS hello off out y.l l).off), .bool (brokeS hello off out y.l l), .bool gr, .bool sh] 87 (0, 0))] :: H) := by
  refine SCalls.of_walk (n := 74) Tryz.func196 rfl rfl rfl fun cs => ?_
  refine At.seq ?_
  refine At.region ?_
  refine AtL.assign (.inl rfl) rfl rfl ?_
  refine AtL.assign (.inl rfl) rfl rfl ?_
  refine AtL.done ?_
  refine At.seq ?_
  refine At.seq ?_
  refine At.region ?_
  refine AtL.move (.inl rfl) rfl rfl ?_
  refine AtL.nilCheck (.inl rfl) rfl rfl ?_
  refine AtL.fieldAddrB tf_fo87_3 (.inl rfl) rfl rfl rfl ?_
  refine AtL.load tf_flat4 (.inl rfl) rfl rfl (Cell.own 1 0 rfl rfl rfl) ?_
  refine AtL.move (.inl rfl) rfl rfl ?_
  refine AtL.join 5 (E' := [(19, .bool (decide ((out = true) ∨ (off = true)))), (0, .pointer (some ⟨b, 0, none⟩)), (1, .slice A l.length C)]) (H' := y.s :: [(b, .cells #[.slice y.A y.l.length y.C, .bool hello, .bool off, .bool out, .bool gr, .bool sh] 87 (0, 0))] :: H) (fun J => ?_) ?_
  · refine AtL.split (t := 14) rfl ?_ ?_
    · intro hs14
      have hs14 : out = true := hs14
      refine AtL.skipped rfl rfl rfl rfl rfl rfl ?_
      refine AtL.skipped rfl rfl rfl rfl rfl rfl ?_
      refine AtL.skipped rfl rfl rfl rfl rfl rfl ?_
      refine AtL.skipped rfl rfl rfl rfl rfl rfl ?_
      refine AtL.pickT (.inl rfl) rfl rfl rfl ?_
      exact J _ (by exact ⟨(boolIs (by clear J; first | (simp [hs14]; done) | (simp_all; done) | grind)), rfl, rfl, trivial⟩)
    · intro hs14
      have hs14 : out = false := hs14
      refine AtL.move (.inr ⟨_, _, _, rfl, rfl, rfl, rfl⟩) rfl rfl ?_
      refine AtL.nilCheck (.inr ⟨_, _, _, rfl, rfl, rfl, rfl⟩) rfl rfl ?_
      refine AtL.fieldAddrB tf_fo87_2 (.inr ⟨_, _, _, rfl, rfl, rfl, rfl⟩) rfl rfl rfl ?_
      refine AtL.load tf_flat4 (.inr ⟨_, _, _, rfl, rfl, rfl, rfl⟩) rfl rfl (Cell.own 1 0 rfl rfl rfl) ?_
      refine AtL.pickF (.inl rfl) rfl rfl rfl ?_
      exact J _ (by exact ⟨(boolIs (by clear J; first | (simp [hs14]; done) | (simp_all; done) | grind)), rfl, rfl, trivial⟩)
  · skip
    refine AtL.done ?_
    refine At.cond rfl ?_ ?_
    · intro hc1
      have hc1 : (out = true) ∨ (off = true) := of_decide_eq_true hc1
      refine At.seq ?_
      refine At.region ?_
      refine AtL.assign (.inl rfl) rfl rfl ?_
      refine AtL.assign (.inl rfl) rfl rfl ?_
      refine AtL.done ?_
      refine At.nil ?_
      have hp : pushS hello off out y.l l = ⟨[], 9, y.l, hello, off⟩ := by rw [pushS, if_pos hc1]
      have hq : brokeS hello off out y.l l = out := by rw [brokeS, if_pos hc1]
      rw [hp, hq]
      exact At.ret Tryz.func196 rfl rfl (⟨Sl.nil, y, rfl, rfl, rfl, rfl⟩)
    · intro hc1
      have hc1 : ¬ ((out = true) ∨ (off = true)) := of_decide_eq_false hc1
      refine At.skip ?_
      refine At.seq ?_
      refine At.region ?_
      refine AtL.move (.inl rfl) rfl rfl ?_
      refine AtL.move (.inl rfl) rfl rfl ?_
      refine AtL.nilCheck (.inl rfl) rfl rfl ?_
      refine AtL.fieldAddrB tf_fo87_0 (.inl rfl) rfl rfl rfl ?_
      refine AtL.load tf_flat85 (.inl rfl) rfl rfl (Cell.own 1 0 rfl rfl rfl) ?_
      refine AtL.move (.inl rfl) rfl rfl ?_
      refine AtL.buildSlice (cs := [.slice y.A y.l.length y.C, .slice A l.length C]) Tryz.underlying278 tf_zero85 tf_sz85 rfl rfl (.inl rfl) rfl rfl rfl ?_
      intro b1
      refine AtL.call tf_body200 (.inl rfl) rfl rfl (rconcat2 (y.own.rd (i := 0) rfl) (Rd.skip 2 h) (by first | omega | (simp only [List.length_append, List.length_cons, List.length_nil]; omega) | (simp; done) | (simp; omega))) ?_
      rintro _ _ ⟨A2, C3, s4, o5, rfl, rfl⟩
      refine AtL.nilCheck (.inl rfl) rfl rfl ?_
      refine AtL.fieldAddrB tf_fo87_0 (.inl rfl) rfl rfl rfl ?_
      refine AtL.store (H' := s4 :: [(b1, .cells #[.slice y.A y.l.length y.C, .slice A l.length C] 85 (0, 0))] :: y.s :: [(b, .cells #[.slice A2 (y.l ++ l).length C3, .bool hello, .bool off, .bool out, .bool gr, .bool sh] 87 (0, 0))] :: H) 3 0 tf_sz85 (.inl rfl) rfl rfl rfl rfl rfl rfl rfl rfl rfl ?_
      refine AtL.done ?_
      refine At.seq ?_
      refine At.region ?_
      refine AtL.assign (.inl rfl) rfl rfl ?_
      refine AtL.done ?_
      refine At.block ?_
      obtain ⟨rfl, rfl⟩ : off = false ∧ out = false := by simpa [and_comm] using hc1
      refine At.nil ?_
      refine At.pick (H' := [] :: s4 :: [(b, .cells #[.slice A2 (y.l ++ l).length C3, .bool hello, .bool false, .bool false, .bool gr, .bool sh] 87 (0, 0))] :: H) [0, 1, 4] 5 rfl rfl ?_
      refine At.loop3 (fun (x : Sl tyB 5) (z : Sl tyB 5) (hh : Bool) => [(0, .pointer (some ⟨b, 0, none⟩)), (6, .slice x.A x.l.length x.C)]) (fun (x : Sl tyB 5) (z : Sl tyB 5) (hh : Bool) => x.s :: z.s :: [(b, .cells #[.slice z.A z.l.length z.C, .bool hh, .bool false, .bool false, .bool gr, .bool sh] 87 (0, 0))] :: H) (fun (x : Sl tyB 5) (z : Sl tyB 5) (hh : Bool) => told x.l hh z.l = pushF hello (y.l ++ l) ∧ x.l.length + z.l.length ≤ y.l.length + l.length) (fun (x : Sl tyB 5) (z : Sl tyB 5) (hh : Bool) => z.l.length) Sl.nil (⟨A2, C3, y.l ++ l, s4, o5⟩) hello (⟨rfl, by simp [Sl.nil]⟩) ⟨rfl, rfl, trivial⟩ rfl ?_
      rintro x z hh ⟨hI, hlen⟩ ihL1
      have hn := oneF_n hh z.l
      refine At.block ?_
      refine At.seq ?_
      refine At.region ?_
      refine AtL.move (.inl rfl) rfl rfl ?_
      refine AtL.pick (H' := z.s :: [(b, .cells #[.slice z.A z.l.length z.C, .bool hh, .bool false, .bool false, .bool gr, .bool sh] 87 (0, 0))] :: x.s :: H) [1, 2, 0] 3 rfl rfl ?_
      refine AtL.call tf_body201 (.inl rfl) rfl rfl (one_ok (y := z) (by omega)) ?_
      rintro _ _ ⟨A6, C7, q8, rfl, rfl⟩
      refine AtL.move (.inl rfl) rfl rfl ?_
      refine AtL.extract (.inl rfl) rfl rfl rfl ?_
      refine AtL.extract (.inl rfl) rfl rfl rfl ?_
      refine AtL.extract (.inl rfl) rfl rfl rfl ?_
      refine AtL.assign (.inl rfl) rfl rfl ?_
      refine AtL.assign (.inl rfl) rfl rfl ?_
      refine AtL.assign (.inl rfl) rfl rfl ?_
      refine AtL.done ?_
      refine At.seq ?_
      refine At.seq ?_
      refine At.region ?_
      refine AtL.move (.inl rfl) rfl rfl ?_
      refine AtL.nei (.inl rfl) rfl rfl rfl ?_
      refine AtL.done ?_
      refine At.cond rfl ?_ ?_
      · intro hc2
        have hc2 : ¬ (((oneF hh z.l).e : Int) = 0) := of_decide_eq_false (bnot_true hc2)
        refine At.seq ?_
        refine At.region ?_
        refine AtL.move (.inl rfl) rfl rfl ?_
        refine AtL.move (.inl rfl) rfl rfl ?_
        refine AtL.nilCheck (.inl rfl) rfl rfl ?_
        refine AtL.fieldAddrB tf_fo87_3 (.inl rfl) rfl rfl rfl ?_
        refine AtL.store (H' := z.s :: [(b, .cells #[.slice z.A z.l.length z.C, .bool ((oneF hh z.l).h), .bool ((oneF hh z.l).off), .bool true, .bool gr, .bool sh] 87 (0, 0))] :: x.s :: H) 1 0 tf_sz4 (.inl rfl) rfl rfl rfl rfl rfl rfl rfl rfl rfl ?_
        refine AtL.nilCheck (.inl rfl) rfl rfl ?_
        refine AtL.fieldAddrB tf_fo87_0 (.inl rfl) rfl rfl rfl ?_
        refine AtL.store (H' := z.s :: [(b, .cells #[.slice none 0 0, .bool ((oneF hh z.l).h), .bool ((oneF hh z.l).off), .bool true, .bool gr, .bool sh] 87 (0, 0))] :: x.s :: H) 1 0 tf_sz85 (.inl rfl) rfl rfl rfl rfl rfl rfl rfl rfl rfl ?_
        refine AtL.done ?_
        refine At.seq ?_
        refine At.region ?_
        refine AtL.move (.inl rfl) rfl rfl ?_
        refine AtL.move (.inl rfl) rfl rfl ?_
        refine AtL.assign (.inl rfl) rfl rfl ?_
        refine AtL.assign (.inl rfl) rfl rfl ?_
        refine AtL.done ?_
        refine At.nil ?_
        refine At.pick (H' := x.s :: [] :: [(b, .cells #[.slice none 0 0, .bool ((oneF hh z.l).h), .bool ((oneF hh z.l).off), .bool true, .bool gr, .bool sh] 87 (0, 0))] :: H) [3, 0, 2] 4 rfl rfl ?_
        have hp : pushS hello false false y.l l = pushF hello (y.l ++ l) := by rw [pushS, if_neg (by simp)]
        have hq : brokeS hello false false y.l l = decide ((pushF hello (y.l ++ l)).e ≠ 0) := by rw [brokeS, if_neg (by simp)]
        rw [hp, hq, ← hI, told_err hc2]
        exact At.ret Tryz.func196 rfl rfl (⟨x, Sl.nil, rfl, rfl, rfl, by simp only [ne_eq, hc2, not_false_eq_true, decide_true, oneF_h hc2]; rfl⟩)
      · intro hc2
        have hc2 : ((oneF hh z.l).e : Int) = 0 := of_decide_eq_true (bnot_false hc2)
        refine At.skip ?_
        refine At.seq ?_
        refine At.region ?_
        refine AtL.move (.inl rfl) rfl rfl ?_
        refine AtL.move (.inl rfl) rfl rfl ?_
        refine AtL.append (l := x.l) (news := (oneF hh z.l).x) 2 tf_el34 rfl x.own q8 (by first | omega | (simp only [List.length_append, List.length_cons, List.length_nil]; omega) | (simp; done) | (simp; omega)) (.inl rfl) rfl rfl rfl ?_
        intro A9 C10 s11 o12
        refine AtL.assign (.inl rfl) rfl rfl ?_
        refine AtL.done ?_
        refine At.seq ?_
        refine At.region ?_
        refine AtL.move (.inl rfl) rfl rfl ?_
        refine AtL.move (.inl rfl) rfl rfl ?_
        refine AtL.nilCheck (.inl rfl) rfl rfl ?_
        refine AtL.fieldAddrB tf_fo87_0 (.inl rfl) rfl rfl rfl ?_
        refine AtL.load tf_flat85 (.inl rfl) rfl rfl (Cell.own 1 0 rfl rfl rfl) ?_
        refine AtL.move (.inl rfl) rfl rfl ?_
        have hleo15 := Own.le_cap z.own
        refine AtL.sliceO ((oneF hh z.l).n) z.l.length z.C z.own (evBound_some rfl rfl) rfl rfl (by intro h; cases h) (by omega) (by omega) (by omega) (Nat.le_refl _) Tryz.underlying85 tf_sz5 (.inl rfl) rfl rfl ?_
        intro A13 C14 o15
        clear hleo15
        have hlo15 : (subl z.l ((oneF hh z.l).n) z.l.length).length = z.l.length - ((oneF hh z.l).n) := subl_len (by omega)
        refine AtL.nilCheck (.inl rfl) rfl rfl ?_
        refine AtL.fieldAddrB tf_fo87_0 (.inl rfl) rfl rfl rfl ?_
        refine AtL.store (H' := z.s :: [(b, .cells #[.slice A13 (subl z.l ((oneF hh z.l).n) z.l.length).length C14, .bool ((oneF hh z.l).h), .bool ((oneF hh z.l).off), .bool false, .bool gr, .bool sh] 87 (0, 0))] :: s11 :: H) 1 0 tf_sz85 (.inl rfl) rfl rfl rfl rfl rfl rfl rfl rfl rfl ?_
        refine AtL.done ?_
        refine At.seq ?_
        refine At.seq ?_
        refine At.region ?_
        refine AtL.move (.inl rfl) rfl rfl ?_
        refine AtL.nilCheck (.inl rfl) rfl rfl ?_
        refine AtL.fieldAddrB tf_fo87_2 (.inl rfl) rfl rfl rfl ?_
        refine AtL.load tf_flat4 (.inl rfl) rfl rfl (Cell.own 1 0 rfl rfl rfl) ?_
        refine AtL.done ?_
        refine At.cond rfl ?_ ?_
        · intro hc3
          have hc3 : ((oneF hh z.l).off) = true := hc3
          refine At.region ?_
          refine AtL.move (.inl rfl) rfl rfl ?_
          refine AtL.nilCheck (.inl rfl) rfl rfl ?_
          refine AtL.fieldAddrB tf_fo87_0 (.inl rfl) rfl rfl rfl ?_
          refine AtL.store (H' := z.s :: [(b, .cells #[.slice none 0 0, .bool ((oneF hh z.l).h), .bool ((oneF hh z.l).off), .bool false, .bool gr, .bool sh] 87 (0, 0))] :: s11 :: H) 1 0 tf_sz85 (.inl rfl) rfl rfl rfl rfl rfl rfl rfl rfl rfl ?_
          refine AtL.done ?_
          refine At.seq ?_
          refine At.region ?_
          refine AtL.move (.inl rfl) rfl rfl ?_
          refine AtL.eqi (.inl rfl) rfl rfl rfl ?_
          refine AtL.move (.inl rfl) rfl rfl ?_
          refine AtL.join 5 (E' := [(72, .bool (decide ((((oneF hh z.l).n : Int) = 0) ∨ (((oneF hh z.l).off) = true)))), (0, .pointer (some ⟨b, 0, none⟩)), (6, .slice A9 (x.l ++ ((oneF hh z.l).x)).length C10)]) (H' := z.s :: [(b, .cells #[.slice none 0 0, .bool ((oneF hh z.l).h), .bool ((oneF hh z.l).off), .bool false, .bool gr, .bool sh] 87 (0, 0))] :: s11 :: H) (fun J => ?_) ?_
          · refine AtL.split (t := 67) rfl ?_ ?_
            · intro hs67
              have hs67 : ((oneF hh z.l).n : Int) = 0 := of_decide_eq_true hs67
              refine AtL.skipped rfl rfl rfl rfl rfl rfl ?_
              refine AtL.skipped rfl rfl rfl rfl rfl rfl ?_
              refine AtL.skipped rfl rfl rfl rfl rfl rfl ?_
              refine AtL.skipped rfl rfl rfl rfl rfl rfl ?_
              refine AtL.pickT (.inl rfl) rfl rfl rfl ?_
              exact J _ (by exact ⟨(boolIs (by clear J; first | (simp [hs67]; done) | (simp_all; done) | grind)), rfl, rfl, trivial⟩)
            · intro hs67
              have hs67 : ¬ (((oneF hh z.l).n : Int) = 0) := of_decide_eq_false hs67
              refine AtL.move (.inr ⟨_, _, _, rfl, rfl, rfl, rfl⟩) rfl rfl ?_
              refine AtL.nilCheck (.inr ⟨_, _, _, rfl, rfl, rfl, rfl⟩) rfl rfl ?_
              refine AtL.fieldAddrB tf_fo87_2 (.inr ⟨_, _, _, rfl, rfl, rfl, rfl⟩) rfl rfl rfl ?_
              refine AtL.load tf_flat4 (.inr ⟨_, _, _, rfl, rfl, rfl, rfl⟩) rfl rfl (Cell.own 1 0 rfl rfl rfl) ?_
              refine AtL.pickF (.inl rfl) rfl rfl rfl ?_
              exact J _ (by exact ⟨(boolIs (by clear J; first | (simp [hs67]; done) | (simp_all; done) | grind)), rfl, rfl, trivial⟩)
          · skip
            refine AtL.done ?_
            refine At.condIs true rfl (by simp [hc3]) ?_
            refine At.seq ?_
            refine At.region ?_
            refine AtL.move (.inl rfl) rfl rfl ?_
            refine AtL.assign (.inl rfl) rfl rfl ?_
            refine AtL.assign (.inl rfl) rfl rfl ?_
            refine AtL.done ?_
            refine At.nil ?_
            refine At.pick (H' := s11 :: [] :: [(b, .cells #[.slice none 0 0, .bool ((oneF hh z.l).h), .bool ((oneF hh z.l).off), .bool false, .bool gr, .bool sh] 87 (0, 0))] :: H) [3, 0, 2] 4 rfl rfl ?_
            have hp : pushS hello false false y.l l = pushF hello (y.l ++ l) := by rw [pushS, if_neg (by simp)]
            have hq : brokeS hello false false y.l l = decide ((pushF hello (y.l ++ l)).e ≠ 0) := by rw [brokeS, if_neg (by simp)]
            rw [hp, hq, ← hI, told_off (by omega) hc3]
            exact At.ret Tryz.func196 rfl rfl (⟨⟨A9, C10, x.l ++ ((oneF hh z.l).x), s11, o12⟩, Sl.nil, rfl, rfl, rfl, by rw [hc3]; rfl⟩)
        · intro hc3
          have hc3 : ((oneF hh z.l).off) = false := hc3
          rw [hc3]
          refine At.skip ?_
          refine At.seq ?_
          refine At.region ?_
          refine AtL.move (.inl rfl) rfl rfl ?_
          refine AtL.eqi (.inl rfl) rfl rfl rfl ?_
          refine AtL.move (.inl rfl) rfl rfl ?_
          refine AtL.join 5 (E' := [(72, .bool (decide (((oneF hh z.l).n : Int) = 0))), (0, .pointer (some ⟨b, 0, none⟩)), (6, .slice A9 (x.l ++ ((oneF hh z.l).x)).length C10)]) (H' := z.s :: [(b, .cells #[.slice A13 (subl z.l ((oneF hh z.l).n) z.l.length).length C14, .bool ((oneF hh z.l).h), .bool false, .bool false, .bool gr, .bool sh] 87 (0, 0))] :: s11 :: H) (fun J => ?_) ?_
          · refine AtL.split (t := 67) rfl ?_ ?_
            · intro hs67
              have hs67 : ((oneF hh z.l).n : Int) = 0 := of_decide_eq_true hs67
              refine AtL.skipped rfl rfl rfl rfl rfl rfl ?_
              refine AtL.skipped rfl rfl rfl rfl rfl rfl ?_
              refine AtL.skipped rfl rfl rfl rfl rfl rfl ?_
              refine AtL.skipped rfl rfl rfl rfl rfl rfl ?_
              refine AtL.pickT (.inl rfl) rfl rfl rfl ?_
              exact J _ (by exact ⟨(boolIs (by clear J; first | (simp [hs67]; done) | (simp_all; done) | grind)), rfl, rfl, trivial⟩)
            · intro hs67
              have hs67 : ¬ (((oneF hh z.l).n : Int) = 0) := of_decide_eq_false hs67
              refine AtL.move (.inr ⟨_, _, _, rfl, rfl, rfl, rfl⟩) rfl rfl ?_
              refine AtL.nilCheck (.inr ⟨_, _, _, rfl, rfl, rfl, rfl⟩) rfl rfl ?_
              refine AtL.fieldAddrB tf_fo87_2 (.inr ⟨_, _, _, rfl, rfl, rfl, rfl⟩) rfl rfl rfl ?_
              refine AtL.load tf_flat4 (.inr ⟨_, _, _, rfl, rfl, rfl, rfl⟩) rfl rfl (Cell.own 1 0 rfl rfl rfl) ?_
              refine AtL.pickF (.inl rfl) rfl rfl rfl ?_
              exact J _ (by exact ⟨(boolIs (by clear J; first | (simp [hs67]; done) | (simp_all; done) | grind)), rfl, rfl, trivial⟩)
          · skip
            refine AtL.done ?_
            refine At.cond rfl ?_ ?_
            · intro hc4
              have hc4 : ((oneF hh z.l).n : Int) = 0 := of_decide_eq_true hc4
              refine At.seq ?_
              refine At.region ?_
              refine AtL.move (.inl rfl) rfl rfl ?_
              refine AtL.assign (.inl rfl) rfl rfl ?_
              refine AtL.assign (.inl rfl) rfl rfl ?_
              refine AtL.done ?_
              refine At.pick (H' := s11 :: z.s :: [(b, .cells #[.slice A13 (subl z.l ((oneF hh z.l).n) z.l.length).length C14, .bool ((oneF hh z.l).h), .bool false, .bool false, .bool gr, .bool sh] 87 (0, 0))] :: H) [2, 0, 1] 3 rfl rfl ?_
              have hp : pushS hello false false y.l l = pushF hello (y.l ++ l) := by rw [pushS, if_neg (by simp)]
              have hq : brokeS hello false false y.l l = decide ((pushF hello (y.l ++ l)).e ≠ 0) := by rw [brokeS, if_neg (by simp)]
              have hn0 : (oneF hh z.l).n = 0 := by simpa [hc3] using hc4
              rw [hp, hq, ← hI, told_none (by omega) hc3 hn0]
              exact At.ret Tryz.func196 rfl rfl (⟨⟨A9, C10, x.l ++ ((oneF hh z.l).x), s11, o12⟩, ⟨A13, C14, subl z.l ((oneF hh z.l).n) z.l.length, z.s, o15⟩, by show x.l ++ _ = x.l; rw [hn.2.2.1 hn0, List.append_nil], by show subl _ _ _ = z.l; rw [hn0, subl_drop]; rfl, rfl, rfl⟩)
            · intro hc4
              have hc4 : ¬ (((oneF hh z.l).n : Int) = 0) := of_decide_eq_false hc4
              refine At.skip ?_
              refine At.inBlock ?_
              refine At.pick (H' := s11 :: z.s :: [(b, .cells #[.slice A13 (subl z.l ((oneF hh z.l).n) z.l.length).length C14, .bool ((oneF hh z.l).h), .bool false, .bool false, .bool gr, .bool sh] 87 (0, 0))] :: H) [2, 0, 1] 3 rfl rfl ?_
              refine ihL1 (⟨A9, C10, x.l ++ ((oneF hh z.l).x), s11, o12⟩) (⟨A13, C14, subl z.l ((oneF hh z.l).n) z.l.length, z.s, o15⟩) ((oneF hh z.l).h) (⟨by rw [← hI, told_more hc2 hc3 (by omega)]; congr 1; exact subl_drop _ _, by simp [subl_drop]; omega⟩) (by simp [subl_drop]; omega) _ ?_
              exact ⟨rfl, (by first | rfl | exact slLen (by simp []) | exact intEq (by omega) | exact intEq (by simp []) | exact slLen (by simp []; omega)), trivial⟩
end Go.Proofs.YtbfabhdfmoiabaaGreatDoor
namespace Go.Proofs.YtbfabhdfmoiabaaGreatDoor
set_option linter.unusedVariables false
set_option linter.unusedSimpArgs false
set_option maxRecDepth 100000
set_option maxHeartbeats 400000 in
theorem greet_ok {w0 : World} {base : Nat} {H : List Seg} {b : Nat} {vb : Value} {hello off out gr sh : Bool} :
    SCalls Tryz.prog 199 [.pointer (some ⟨b, 0, none⟩)] w0 base ([(b, .cells #[vb, .bool hello, .bool off, .bool out, .bool gr, .bool sh] 87 (0, 0))] :: H) (fun v H' => ∃ x : Sl tyB 5, x.l = greetF gr ∧ v = .slice x.A x.l.length x.C ∧ H' = x.s :: [(b, .cells #[vb, .bool hello, .bool off, .bool out, .bool true, .bool sh] 87 (0, 0))] :: H) := by
  refine SCalls.of_walk (n := 18) Tryz.func199 rfl rfl rfl fun cs => ?_
  refine At.seq ?_
  refine At.region ?_
  refine AtL.assign (.inl rfl) rfl rfl ?_
  refine AtL.done ?_
  refine At.seq ?_
  refine At.seq ?_
  refine At.region ?_
  refine AtL.move (.inl rfl) rfl rfl ?_
  refine AtL.nilCheck (.inl rfl) rfl rfl ?_
  refine AtL.fieldAddrB tf_fo87_4 (.inl rfl) rfl rfl rfl ?_
  refine AtL.load tf_flat4 (.inl rfl) rfl rfl (Cell.own 0 0 rfl rfl rfl) ?_
  refine AtL.done ?_
  refine At.cond rfl ?_ ?_
  · intro hc1
    have hc1 : gr = true := hc1
    rw [hc1]
    refine At.seq ?_
    refine At.region ?_
    refine AtL.assign (.inl rfl) rfl rfl ?_
    refine AtL.done ?_
    refine At.nil ?_
    exact At.ret Tryz.func199 rfl rfl (⟨Sl.nil, rfl, rfl, rfl⟩)
  · intro hc1
    have hc1 : gr = false := hc1
    rw [hc1]
    refine At.skip ?_
    refine At.seq ?_
    refine At.region ?_
    refine AtL.move (.inl rfl) rfl rfl ?_
    refine AtL.nilCheck (.inl rfl) rfl rfl ?_
    refine AtL.fieldAddrB tf_fo87_4 (.inl rfl) rfl rfl rfl ?_
    refine AtL.store (H' := [(b, .cells #[vb, .bool hello, .bool off, .bool out, .bool true, .bool sh] 87 (0, 0))] :: H) 0 0 tf_sz4 (.inl rfl) rfl rfl rfl rfl rfl rfl rfl rfl rfl ?_
    refine AtL.done ?_
    refine At.seq ?_
    refine At.region ?_
    refine AtL.buildSlice (cs := [.int .u8 1]) Tryz.underlying34 tf_zero5 tf_sz5 rfl rfl (.inl rfl) rfl rfl rfl ?_
    intro b1
    refine AtL.own1 tyB (l := ([1] : List UInt8)) rfl rfl (by first | decide | simp) ?_
    intro s2 o3
    refine AtL.call tf_body198 (.inl rfl) rfl rfl (rec_ok (l := [1]) (o3.rd (i := 0) rfl) (by first | omega | (simp only [List.length_append, List.length_cons, List.length_nil]; omega) | (simp; done) | (simp; omega)) 1) ?_
    rintro _ _ ⟨A4, C5, s6, l8, o7, hl9, rfl, rfl⟩
    obtain rfl : [1, 0, 1, 1] = l8 := (hl9.trans recL_hello).symm
    refine AtL.move (.inl rfl) rfl rfl ?_
    refine AtL.extract (.inl rfl) rfl rfl rfl ?_
    refine AtL.extract (.inl rfl) rfl rfl rfl ?_
    refine AtL.assign (.inl rfl) rfl rfl ?_
    refine AtL.assign (.inl rfl) rfl rfl ?_
    refine AtL.done ?_
    refine At.seq ?_
    refine At.region ?_
    refine AtL.move (.inl rfl) rfl rfl ?_
    refine AtL.assign (.inl rfl) rfl rfl ?_
    refine AtL.done ?_
    refine At.pick (H' := s6 :: [(b, .cells #[vb, .bool hello, .bool off, .bool out, .bool true, .bool sh] 87 (0, 0))] :: H) [0, 2] 3 rfl rfl ?_
    exact At.ret Tryz.func199 rfl rfl (⟨⟨A4, C5, [1, 0, 1, 1], s6, o7⟩, rfl, rfl, rfl⟩)
set_option maxHeartbeats 400000 in
theorem ended_ok {w0 : World} {base : Nat} {H : List Seg} {b : Nat} {vb : Value} {hello off out gr sh : Bool} :
    SCalls Tryz.prog 194 [.pointer (some ⟨b, 0, none⟩)] w0 base ([(b, .cells #[vb, .bool hello, .bool off, .bool out, .bool gr, .bool sh] 87 (0, 0))] :: H) (fun v H' => v = .bool off ∧ H' = [(b, .cells #[vb, .bool hello, .bool off, .bool out, .bool gr, .bool sh] 87 (0, 0))] :: H) := by
  refine SCalls.of_walk (n := 7) Tryz.func194 rfl rfl rfl fun cs => ?_
  refine At.seq ?_
  refine At.region ?_
  refine AtL.assign (.inl rfl) rfl rfl ?_
  refine AtL.done ?_
  refine At.seq ?_
  refine At.region ?_
  refine AtL.move (.inl rfl) rfl rfl ?_
  refine AtL.nilCheck (.inl rfl) rfl rfl ?_
  refine AtL.fieldAddrB tf_fo87_2 (.inl rfl) rfl rfl rfl ?_
  refine AtL.load tf_flat4 (.inl rfl) rfl rfl (Cell.own 0 0 rfl rfl rfl) ?_
  refine AtL.assign (.inl rfl) rfl rfl ?_
  refine AtL.done ?_
  exact At.ret Tryz.func194 rfl rfl (⟨rfl, rfl⟩)
set_option maxHeartbeats 400000 in
theorem sealed_ok {w0 : World} {base : Nat} {H : List Seg}  :
    SCalls Tryz.prog 12 [] w0 base (H) (fun v H' => ∃ b : Nat, v = .iface 84 (.pointer (some ⟨b, 0, none⟩)) ∧ H' = [(b, .cells #[.slice none 0 0, .bool false, .bool false, .bool false, .bool false, .bool false] 87 (0, 0))] :: H) := by
  refine SCalls.of_walk (n := 4) Tryz.func12 rfl rfl rfl fun cs => ?_
  refine At.seq ?_
  refine At.region ?_
  refine AtL.assign (.inl rfl) rfl rfl ?_
  refine AtL.done ?_
  refine At.seq ?_
  refine At.region ?_
  refine AtL.build (cs := [.slice none 0 0, .bool false, .bool false, .bool false, .bool false, .bool false]) tf_lay87 (.inl rfl) rfl rfl rfl ?_
  refine AtL.box (cs := #[.slice none 0 0, .bool false, .bool false, .bool false, .bool false, .bool false]) rfl (.inl rfl) rfl rfl ?_
  intro b1
  refine AtL.makeIface Tryz.underlying84 rfl (.inl rfl) rfl rfl ?_
  refine AtL.assign (.inl rfl) rfl rfl ?_
  refine AtL.done ?_
  exact At.ret Tryz.func12 rfl rfl (⟨_, rfl, rfl⟩)
set_option maxHeartbeats 400000 in
theorem plain_ok {w0 : World} {base : Nat} {H : List Seg}  :
    SCalls Tryz.prog 11 [] w0 base (H) (fun v H' => ∃ b : Nat, v = .iface 81 (.pointer (some ⟨b, 0, none⟩)) ∧ H' = [(b, .cells #[.bool false] 83 (0, 0))] :: H) := by
  refine SCalls.of_walk (n := 4) Tryz.func11 rfl rfl rfl fun cs => ?_
  refine At.seq ?_
  refine At.region ?_
  refine AtL.assign (.inl rfl) rfl rfl ?_
  refine AtL.done ?_
  refine At.seq ?_
  refine At.region ?_
  refine AtL.build (cs := [.bool false]) tf_lay83 (.inl rfl) rfl rfl rfl ?_
  refine AtL.box (cs := #[.bool false]) rfl (.inl rfl) rfl rfl ?_
  intro b1
  refine AtL.makeIface Tryz.underlying81 rfl (.inl rfl) rfl rfl ?_
  refine AtL.assign (.inl rfl) rfl rfl ?_
  refine AtL.done ?_
  exact At.ret Tryz.func11 rfl rfl (⟨_, rfl, rfl⟩)
set_option maxHeartbeats 400000 in
theorem pended_ok {w0 : World} {base : Nat} {H : List Seg} {b : Nat} :
    SCalls Tryz.prog 188 [.pointer (some ⟨b, 0, none⟩)] w0 base (H) (fun v H' => v = .bool false ∧ H' = H) := by
  refine SCalls.of_walk (n := 3) Tryz.func188 rfl rfl rfl fun cs => ?_
  refine At.seq ?_
  refine At.region ?_
  refine AtL.assign (.inl rfl) rfl rfl ?_
  refine AtL.done ?_
  refine At.seq ?_
  refine At.region ?_
  refine AtL.assign (.inl rfl) rfl rfl ?_
  refine AtL.done ?_
  exact At.ret Tryz.func188 rfl rfl (⟨rfl, rfl⟩)
end Go.Proofs.YtbfabhdfmoiabaaGreatDoor
namespace Go.Proofs.YtbfabhdfmoiabaaGreatDoor
set_option linter.unusedVariables false
set_option linter.unusedSimpArgs false
set_option maxRecDepth 100000
set_option maxHeartbeats 400000 in
theorem clone_ok {w0 : World} {base : Nat} {H : List Seg} {A : Option Addr} {C : Nat} {l : List UInt8} (h : Rd tyB w0 base H A C l) (hl : l.length ≤ 140737488355000) :
    SCalls Tryz.prog 38 [.slice A l.length C] w0 base (H) (fun v H' => ∃ x : Sl tyB 5, x.l = l ∧ v = .slice x.A x.l.length x.C ∧ H' = x.s :: H) := by
  refine SCalls.of_walk (n := 8) Tryz.func38 rfl rfl rfl fun cs => ?_
  refine At.seq ?_
  refine At.region ?_
  refine AtL.assign (.inl rfl) rfl rfl ?_
  refine AtL.done ?_
  refine At.seq ?_
  refine At.seq ?_
  refine At.region ?_
  refine AtL.move (.inl rfl) rfl rfl ?_
  refine AtL.eqSliceNil Tryz.underlying34 (.inl rfl) rfl rfl rfl ?_
  refine AtL.done ?_
  refine At.cond rfl ?_ ?_
  · intro hc1
    have hc1 : A.isNone = true := hc1
    have hA : A = none := by simpa using hc1
    have hl0 : l = [] := List.eq_nil_of_length_eq_zero (by have := h.le; have := h.nil hA; omega)
    refine At.seq ?_
    refine At.region ?_
    refine AtL.assign (.inl rfl) rfl rfl ?_
    refine AtL.done ?_
    refine At.nil ?_
    exact At.ret Tryz.func38 rfl rfl (⟨Sl.nil, hl0.symm, rfl, rfl⟩)
  · intro hc1
    have hc1 : A.isNone = false := hc1
    refine At.skip ?_
    refine At.seq ?_
    refine At.region ?_
    refine AtL.buildSlice (cs := []) Tryz.underlying34 tf_zero5 tf_sz5 rfl rfl (.inl rfl) rfl rfl rfl ?_
    intro b1
    refine AtL.own1 tyB (l := ([] : List UInt8)) rfl rfl (by first | decide | simp) ?_
    intro s2 o3
    refine AtL.move (.inl rfl) rfl rfl ?_
    refine AtL.append (l := []) (news := l) 0 tf_el34 rfl o3 (Rd.skip 1 h) (by first | omega | (simp only [List.length_append, List.length_cons, List.length_nil]; omega) | (simp; done) | (simp; omega)) (.inl rfl) rfl rfl rfl ?_
    intro A4 C5 s6 o7
    refine AtL.assign (.inl rfl) rfl rfl ?_
    refine AtL.done ?_
    exact At.ret Tryz.func38 rfl rfl (⟨⟨A4, C5, [] ++ l, s6, o7⟩, rfl, rfl, rfl⟩)
set_option maxHeartbeats 400000 in
theorem ppush_ok {w0 : World} {base : Nat} {H : List Seg} {b : Nat} {A : Option Addr} {C : Nat} {l : List UInt8} (h : Rd tyB w0 base H A C l) (hl : l.length ≤ 140737488355000) :
    SCalls Tryz.prog 190 [.pointer (some ⟨b, 0, none⟩), .slice A l.length C] w0 base (H) (fun v H' => ∃ x : Sl tyB 5, x.l = l ∧ v = .tuple #[.slice x.A x.l.length x.C, int 0] ∧ H' = x.s :: H) := by
  refine SCalls.of_walk (n := 8) Tryz.func190 rfl rfl rfl fun cs => ?_
  refine At.seq ?_
  refine At.region ?_
  refine AtL.assign (.inl rfl) rfl rfl ?_
  refine AtL.assign (.inl rfl) rfl rfl ?_
  refine AtL.done ?_
  refine At.seq ?_
  refine At.region ?_
  refine AtL.move (.inl rfl) rfl rfl ?_
  refine AtL.call tf_body38 (.inl rfl) rfl rfl (clone_ok (l := l) h (by first | omega | (simp only [List.length_append, List.length_cons, List.length_nil]; omega) | (simp; done) | (simp; omega))) ?_
  rintro _ _ ⟨⟨A1, C2, l3, s4, o5⟩, hx6, rfl, rfl⟩
  obtain rfl : l = l3 := hx6.symm
  refine AtL.assign (.inl rfl) rfl rfl ?_
  refine AtL.assign (.inl rfl) rfl rfl ?_
  refine AtL.done ?_
  exact At.ret Tryz.func190 rfl rfl (⟨⟨A1, C2, l, s4, o5⟩, rfl, rfl, rfl⟩)
def psendF (sh : Bool) (l : List UInt8) : List UInt8 := if sh = true ∨ l.length = 0 then [] else l
set_option maxHeartbeats 400000 in
theorem psend_ok {w0 : World} {base : Nat} {H : List Seg} {b : Nat} {sh : Bool} {A : Option Addr} {C : Nat} {l : List UInt8} (h : Rd tyB w0 base H A C l) (hl : l.length ≤ 140737488355000) :
    SCalls Tryz.prog 191 [.pointer (some ⟨b, 0, none⟩), .slice A l.length C] w0 base ([(b, .cells #[.bool sh] 83 (0, 0))] :: H) (fun v H' => ∃ x : Sl tyB 5, x.l = psendF sh l ∧ v = .slice x.A x.l.length x.C ∧ H' = x.s :: [(b, .cells #[.bool sh] 83 (0, 0))] :: H) := by
  refine SCalls.of_walk (n := 16) Tryz.func191 rfl rfl rfl fun cs => ?_
  refine At.seq ?_
  refine At.region ?_
  refine AtL.assign (.inl rfl) rfl rfl ?_
  refine AtL.done ?_
  refine At.seq ?_
  refine At.seq ?_
  refine At.region ?_
  refine AtL.move (.inl rfl) rfl rfl ?_
  refine AtL.nilCheck (.inl rfl) rfl rfl ?_
  refine AtL.fieldAddrB tf_fo83_0 (.inl rfl) rfl rfl rfl ?_
  refine AtL.load tf_flat4 (.inl rfl) rfl rfl (Cell.own 0 0 rfl rfl rfl) ?_
  refine AtL.move (.inl rfl) rfl rfl ?_
  refine AtL.join 4 (E' := [(13, .bool (decide ((sh = true) ∨ ((l.length : Int) = 0)))), (1, .slice A l.length C)]) (H' := [(b, .cells #[.bool sh] 83 (0, 0))] :: H) (fun J => ?_) ?_
  · refine AtL.split (t := 9) rfl ?_ ?_
    · intro hs9
      have hs9 : sh = true := hs9
      refine AtL.skipped rfl rfl rfl rfl rfl rfl ?_
      refine AtL.skipped rfl rfl rfl rfl rfl rfl ?_
      refine AtL.skipped rfl rfl rfl rfl rfl rfl ?_
      refine AtL.pickT (.inl rfl) rfl rfl rfl ?_
      exact J _ (by exact ⟨(boolIs (by clear J; first | (simp [hs9]; done) | (simp_all; done) | grind)), rfl, trivial⟩)
    · intro hs9
      have hs9 : sh = false := hs9
      refine AtL.move (.inr ⟨_, _, _, rfl, rfl, rfl, rfl⟩) rfl rfl ?_
      refine AtL.lenL Tryz.underlying34 (.inr ⟨_, _, _, rfl, rfl, rfl, rfl⟩) rfl rfl ?_
      refine AtL.eqi (.inr ⟨_, _, _, rfl, rfl, rfl, rfl⟩) rfl rfl rfl ?_
      refine AtL.pickF (.inl rfl) rfl rfl rfl ?_
      exact J _ (by exact ⟨(boolIs (by clear J; first | (simp [hs9]; done) | (simp_all; done) | grind)), rfl, trivial⟩)
  · skip
    refine AtL.done ?_
    refine At.cond rfl ?_ ?_
    · intro hc1
      have hc1 : (sh = true) ∨ ((l.length : Int) = 0) := of_decide_eq_true hc1
      refine At.seq ?_
      refine At.region ?_
      refine AtL.assign (.inl rfl) rfl rfl ?_
      refine AtL.done ?_
      refine At.nil ?_
      exact At.ret Tryz.func191 rfl rfl (⟨Sl.nil, (by rw [psendF, if_pos (by simpa using hc1)]; rfl), rfl, rfl⟩)
    · intro hc1
      have hc1 : ¬ ((sh = true) ∨ ((l.length : Int) = 0)) := of_decide_eq_false hc1
      refine At.skip ?_
      refine At.seq ?_
      refine At.region ?_
      refine AtL.move (.inl rfl) rfl rfl ?_
      refine AtL.call tf_body38 (.inl rfl) rfl rfl (clone_ok (l := l) (Rd.skip 1 h) (by first | omega | (simp only [List.length_append, List.length_cons, List.length_nil]; omega) | (simp; done) | (simp; omega))) ?_
      rintro _ _ ⟨⟨A1, C2, l3, s4, o5⟩, hx6, rfl, rfl⟩
      obtain rfl : l = l3 := hx6.symm
      refine AtL.assign (.inl rfl) rfl rfl ?_
      refine AtL.done ?_
      exact At.ret Tryz.func191 rfl rfl (⟨⟨A1, C2, l, s4, o5⟩, (by rw [psendF, if_neg (by simpa using hc1)]), rfl, rfl⟩)
theorem greet_len (g : Bool) : (greetF g).length ≤ 4 := by cases g <;> decide
end Go.Proofs.YtbfabhdfmoiabaaGreatDoor
namespace Go.Proofs.YtbfabhdfmoiabaaGreatDoor
set_option linter.unusedVariables false
set_option linter.unusedSimpArgs false
set_option maxRecDepth 100000
def sentF (se gr sh : Bool) (l : List UInt8) : Bool := if se = true ∧ sh = false ∧ 0 < l.length then true else gr
theorem recs_nil : recs [] = [] := by rw [recs, if_pos rfl]
theorem recs_more {l : List UInt8} (h : 0 < l.length) : recs l = recB 2 (l.take 1024) ++ recs (l.drop 1024) := by
  rw [recs, if_neg (by intro h2; subst h2; simp at h)]
theorem recB_len (k : Int) (l : List UInt8) : (recB k l).length = 3 + l.length := by simp [recB]; omega
theorem recs_len (l : List UInt8) : (recs l).length ≤ 4 * l.length := by
  induction l using (measure List.length).wf.induction with
  | _ l ih =>
    by_cases h : 0 < l.length
    · rw [recs_more h, List.length_append, recB_len]
      have := ih (l.drop 1024) (show (List.drop _ _).length < _ by simp; omega)
      simp at this ⊢
      omega
    · have : l = [] := List.eq_nil_of_length_eq_zero (by omega)
      subst this
      rw [recs_nil]; simp
theorem recs_cut {x y l : List UInt8} (n : Nat) (hn : n = min l.length 1024) (h : 0 < l.length) (hI : x ++ recs l = y) : (x ++ recB 2 (subl l 0 n)) ++ recs (subl l n l.length) = y := by
  rw [← hI, recs_more h, subl_to, subl_drop, List.append_assoc]
  by_cases h2 : 1024 ≤ l.length
  · rw [show n = 1024 by omega]
  · rw [show n = l.length by omega, List.take_of_length_le (Nat.le_refl _), List.take_of_length_le (show l.length ≤ 1024 by omega), List.drop_eq_nil_of_le (Nat.le_refl _), List.drop_eq_nil_of_le (show l.length ≤ 1024 by omega)]
end Go.Proofs.YtbfabhdfmoiabaaGreatDoor
namespace Go.Proofs.YtbfabhdfmoiabaaGreatDoor
set_option linter.unusedVariables false
set_option linter.unusedSimpArgs false
set_option maxRecDepth 100000
set_option maxHeartbeats 400000 in
theorem chunk_ok {w0 : World} {base : Nat} {H : List Seg} {A : Option Addr} {C : Nat} {l : List UInt8} (n : Nat) (hn : 1 ≤ n) :
    SCalls Tryz.prog 202 [.slice A l.length C, .int .i64 (n : Int)] w0 base (H) (fun v H' => ∃ bs bn : Nat, v = .func (.func 207) #[] #[.pointer (some ⟨bs, 0, none⟩), .pointer (some ⟨bn, 0, none⟩)] ∧ H' = [(bn, .cells #[.int .i64 (n : Int)] 3 (0, 0))] :: [(bs, .cells #[.slice A l.length C] 34 (0, 0))] :: H) := by
  refine SCalls.of_walk (n := 9) Tryz.func202 rfl rfl rfl fun cs => ?_
  refine At.seq ?_
  refine At.region ?_
  refine AtL.box (cs := #[.slice A l.length C]) rfl (.inl rfl) rfl rfl ?_
  intro b1
  refine AtL.box (cs := #[.int .i64 (n : Int)]) rfl (.inl rfl) rfl rfl ?_
  intro b2
  refine AtL.assign (.inl rfl) rfl rfl ?_
  refine AtL.done ?_
  refine At.seq ?_
  refine At.seq ?_
  refine At.region ?_
  refine AtL.load tf_flat3 (.inl rfl) rfl rfl (Cell.own 0 0 rfl rfl rfl) ?_
  refine AtL.lss (.inl rfl) rfl rfl rfl ?_
  refine AtL.done ?_
  refine At.condIs false rfl (decide_eq_false (by omega)) ?_
  refine At.skip ?_
  refine At.seq ?_
  refine At.region ?_
  refine AtL.makeFunc (.inl rfl) rfl rfl rfl ?_
  refine AtL.assign (.inl rfl) rfl rfl ?_
  refine AtL.done ?_
  exact At.ret Tryz.func202 rfl rfl (⟨_, _, rfl, rfl⟩)
set_option maxHeartbeats 400000 in
theorem chunkit_ok {w0 : World} {base : Nat} {T Hc : List Seg} {A : Option Addr} {C : Nat} {l : List UInt8} (h : Rd tyB w0 base T A C l) (hl : l.length ≤ 140737488355000) (n : Nat) (hn : 1 ≤ n) (hn2 : n ≤ 1073741824) {lp bs bn : Nat} {J : Nat → List Seg → Prop}
    (hY : ∀ i Hc, i < l.length → J i Hc → ∀ T' A' C', Rd tyB w0 base T' A' C' (subl l i (i + min n (l.length - i))) → YCalls Tryz.prog lp [.slice A' (subl l i (i + min n (l.length - i))).length C'] w0 base (Hc ++ T') (fun v H' => v = .bool true ∧ ∃ Hc', H' = Hc' ++ T' ∧ J (i + min n (l.length - i)) Hc'))
    (h0 : J 0 Hc) :
    SCalls Tryz.prog 207 [.func (.yield lp) #[] #[], .pointer (some ⟨bs, 0, none⟩), .pointer (some ⟨bn, 0, none⟩)] w0 base ([(bs, .cells #[.slice A l.length C] 34 (0, 0))] :: [(bn, .cells #[.int .i64 (n : Int)] 3 (0, 0))] :: (Hc ++ T)) (fun v H' => v = .tuple #[] ∧ ∃ Hc', H' = [(bs, .cells #[.slice A l.length C] 34 (0, 0))] :: [(bn, .cells #[.int .i64 (n : Int)] 3 (0, 0))] :: (Hc' ++ T) ∧ J l.length Hc') := by
  have hv : Rd tyB w0 base (Hc ++ T) A C l := Rd.skip Hc.length (by rw [List.drop_left]; exact h)
  refine SCalls.of_walk (n := 31) Tryz.func207 rfl rfl rfl fun cs => ?_
  refine At.seq ?_
  refine At.region ?_
  refine AtL.assign (.inl rfl) rfl rfl ?_
  refine AtL.done ?_
  refine At.block ?_
  refine At.loop2 (fun (i : Nat) (Hc2 : List Seg) => [(0, .func (.yield lp) #[] #[]), (1, .pointer (some ⟨bs, 0, none⟩)), (2, .pointer (some ⟨bn, 0, none⟩)), (4, .int .i64 (i : Int))]) (fun (i : Nat) (Hc2 : List Seg) => [(bs, .cells #[.slice A l.length C] 34 (0, 0))] :: [(bn, .cells #[.int .i64 (n : Int)] 3 (0, 0))] :: (Hc2 ++ T)) (fun (i : Nat) (Hc2 : List Seg) => i ≤ l.length + n ∧ J (min i l.length) Hc2) (fun (i : Nat) (Hc2 : List Seg) => l.length + n - i) 0 Hc (⟨by omega, by rw [Nat.zero_min]; exact h0⟩) ⟨rfl, rfl, rfl, rfl, trivial⟩ rfl ?_
  rintro i Hc2 ⟨hi, hJ⟩ ihL1
  have hv2 : Rd tyB w0 base (Hc2 ++ T) A C l := Rd.skip Hc2.length (by rw [List.drop_left]; exact h)
  refine At.seq ?_
  refine At.seq ?_
  refine At.region ?_
  refine AtL.move (.inl rfl) rfl rfl ?_
  refine AtL.load tf_flat34 (.inl rfl) rfl rfl (Cell.own 0 0 rfl rfl rfl) ?_
  refine AtL.lenL Tryz.underlying34 (.inl rfl) rfl rfl ?_
  refine AtL.lss (.inl rfl) rfl rfl rfl ?_
  refine AtL.done ?_
  refine At.cond rfl ?_ ?_
  · intro hc1
    have hc1 : (i : Int) < (l.length : Int) := of_decide_eq_true hc1
    refine At.skip ?_
    refine At.seq ?_
    refine At.block ?_
    refine At.seq ?_
    have hleo3 := Rd.le hv2
    obtain ⟨A1, eA1⟩ : ∃ A1 : Option Addr, A1 = (if C = i then A else Option.map (fun a => a.add (i * tyB.sz)) A) := ⟨_, rfl⟩
    obtain ⟨C2, eC2⟩ : ∃ C2 : Nat, C2 = C - i := ⟨_, rfl⟩
    have o3 : Rd tyB w0 base (Hc2 ++ T) A1 C2 (subl l i l.length) := by rw [eA1, eC2]; exact Rd.cut hv2 (by omega) (by omega) (by omega) (by omega)
    refine At.draw (es := []) (pv := [(0, .int .i64 (n : Int)), (1, .slice A l.length C), (2, .int .i64 (i : Int)), (3, .slice A1 (subl l i l.length).length C2), (4, .int .i64 ((subl l i l.length).length : Int)), (5, .int .i64 ((min n (l.length - i) : Nat) : Int)), (6, .int .i64 ((min n (l.length - i) : Nat) : Int))]) tf_mixed (by kernel_rfl) (by kernel_rfl) (by kernel_rfl) ?_
    refine ⟨⟨.inr ⟨_, rfl, rfl, .inl ⟨rfl, Do.load tf_flat3 rfl (Cell.own 1 0 rfl rfl rfl)⟩⟩, .inr ⟨_, rfl, rfl, .inl ⟨rfl, Do.load tf_flat34 rfl (Cell.own 0 0 rfl rfl rfl)⟩⟩, .inr ⟨_, rfl, rfl, .inl ⟨rfl, Do.move rfl⟩⟩, .inr ⟨_, rfl, rfl, .inl ⟨rfl, Do.sliceX_ (T := tyB) (l := l) i l.length C (evBound_some rfl rfl) rfl rfl (by intro h; cases h) (by omega) (by omega) (Nat.le_refl _) Tryz.underlying34 tf_sz5 rfl eA1 (subl_len (l := l) (i := i) (j := l.length) (by omega)) eC2⟩⟩, .inr ⟨_, rfl, rfl, .inl ⟨rfl, Do.lenL Tryz.underlying34 rfl⟩⟩, .inr ⟨_, rfl, rfl, .inl ⟨rfl, Do.asInt (Do.minZ (z := ((min n ((subl l i l.length).length) : Nat) : Int)) rfl rfl (by omega)) (by rw [subl_len (Nat.le_refl _)])⟩⟩, .inr ⟨_, rfl, rfl, .inl ⟨rfl, Do.assign rfl⟩⟩, trivial⟩, by kernel_rfl, ?_⟩
    refine At.mono (E' := [(0, .func (.yield lp) #[] #[]), (1, .pointer (some ⟨bs, 0, none⟩)), (2, .pointer (some ⟨bn, 0, none⟩)), (4, .int .i64 (i : Int)), (5, .int .i64 ((min n (l.length - i) : Nat) : Int))]) ⟨rfl, rfl, rfl, rfl, rfl, trivial⟩ ?_
    refine At.seq ?_
    refine At.region ?_
    refine AtL.move (.inl rfl) rfl rfl ?_
    refine AtL.load tf_flat34 (.inl rfl) rfl rfl (Cell.own 0 0 rfl rfl rfl) ?_
    refine AtL.move (.inl rfl) rfl rfl ?_
    refine AtL.move (.inl rfl) rfl rfl ?_
    refine AtL.move (.inl rfl) rfl rfl ?_
    refine AtL.add (z := (i : Int) + ((min n (l.length - i) : Nat) : Int)) (.inl rfl) rfl rfl rfl (w64 (by omega) (by omega)) ?_
    refine AtL.move (.inl rfl) rfl rfl ?_
    refine AtL.move (.inl rfl) rfl rfl ?_
    refine AtL.add (z := (i : Int) + ((min n (l.length - i) : Nat) : Int)) (.inl rfl) rfl rfl rfl (w64 (by omega) (by omega)) ?_
    have hle3 := Rd.le h
    obtain ⟨A3, eA3⟩ : ∃ A3 : Option Addr, A3 = (if (i + min n (l.length - i)) = i then A else Option.map (fun a => a.add (i * tyB.sz)) A) := ⟨_, rfl⟩
    obtain ⟨C3, eC3⟩ : ∃ C3 : Nat, C3 = (i + min n (l.length - i)) - i := ⟨_, rfl⟩
    have q3 : Rd tyB w0 base T A3 C3 (subl l i (i + min n (l.length - i))) := by rw [eA3, eC3]; exact Rd.cut h (by omega) (by omega) (by omega) (by omega)
    refine AtL.ofIs (Do.sliceX_ (T := tyB) (l := l) i (i + min n (l.length - i)) (i + min n (l.length - i)) (evBound_some rfl rfl) (evBound_some rfl rfl) (evBound_some rfl rfl) (fun _ => rfl) (by omega) (by omega) (by omega) Tryz.underlying34 tf_sz5 rfl eA3 (subl_len (l := l) (i := i) (j := i + min n (l.length - i)) (by omega)) eC3) (.inl rfl) rfl ?_
    refine AtL.yield (.inl rfl) rfl rfl rfl (YCalls.perm (perm2 [(bs, .cells #[.slice A l.length C] 34 (0, 0))] [(bn, .cells #[.int .i64 (n : Int)] 3 (0, 0))] Hc2 T) (hY i Hc2 (by omega) (by rw [show min i l.length = i by omega] at hJ; exact hJ) ([(bs, .cells #[.slice A l.length C] 34 (0, 0))] :: [(bn, .cells #[.int .i64 (n : Int)] 3 (0, 0))] :: T) A3 C3 (Rd.skip 2 q3))) ?_
    rintro _ _ ⟨rfl, Hc3, rfl, hJ3⟩
    refine AtL.perm (perm2 _ _ Hc3 T).symm ?_
    refine AtL.not (.inl rfl) rfl rfl ?_
    refine AtL.done ?_
    refine At.condF rfl ?_
    refine At.skip ?_
    refine At.inBlock ?_
    refine At.region ?_
    refine AtL.move (.inl rfl) rfl rfl ?_
    refine AtL.load tf_flat3 (.inl rfl) rfl rfl (Cell.own 1 0 rfl rfl rfl) ?_
    refine AtL.add (z := (i : Int) + (n : Int)) (.inl rfl) rfl rfl rfl (w64 (by omega) (by omega)) ?_
    refine AtL.assign (.inl rfl) rfl rfl ?_
    refine AtL.done ?_
    refine ihL1 (i + n) Hc3 (⟨by omega, by rw [show min (i + n) l.length = i + min n (l.length - i) by omega]; exact hJ3⟩) (by omega) _ ?_
    exact ⟨rfl, rfl, rfl, (by first | rfl | exact slLen (by simp []) | exact intEq (by omega) | exact intEq (by simp []) | exact slLen (by simp []; omega)), trivial⟩
  · intro hc1
    have hc1 : ¬ ((i : Int) < (l.length : Int)) := of_decide_eq_false hc1
    refine At.exit rfl ?_
    exact At.end_ Tryz.func207 rfl rfl (⟨rfl, _, rfl, by rw [show min i l.length = l.length by omega] at hJ; exact hJ⟩)
end Go.Proofs.YtbfabhdfmoiabaaGreatDoor
namespace Go.Proofs.YtbfabhdfmoiabaaGreatDoor
set_option linter.unusedVariables false
set_option linter.unusedSimpArgs false
set_option maxRecDepth 100000
theorem recs_cut2 {x y l : List UInt8} (i n : Nat) (hn : n = i + min 1024 (l.length - i)) (h : i < l.length) (hI : x ++ recs (l.drop i) = y) : (x ++ recB 2 (subl l i n)) ++ recs (l.drop n) = y := by
  have := recs_cut (l := l.drop i) (min (l.drop i).length 1024) rfl (by simp; omega) hI
  rw [subl_drop, List.drop_drop] at this
  rw [show subl l i n = subl (l.drop i) 0 (min (l.drop i).length 1024) from by simp only [subl, List.drop_zero, List.length_drop]; congr 1; omega]
  rw [show n = i + min (l.drop i).length 1024 from by simp; omega]
  exact this
set_option maxHeartbeats 400000 in
theorem send_ok {w0 : World} {base : Nat} {H : List Seg} {b : Nat} {vb : Value} {hello off out gr sh : Bool} {A : Option Addr} {C : Nat} {l : List UInt8} (h : Rd tyB w0 base H A C l) (hl : l.length ≤ 140737488355) :
    SCalls Tryz.prog 197 [.pointer (some ⟨b, 0, none⟩), .slice A l.length C] w0 base ([(b, .cells #[vb, .bool hello, .bool off, .bool out, .bool gr, .bool sh] 87 (0, 0))] :: H) (fun v H' => ∃ x : Sl tyB 5, x.l = sendF gr sh l ∧ v = .slice x.A x.l.length x.C ∧ H' = x.s :: [(b, .cells #[vb, .bool hello, .bool off, .bool out, .bool (sentF true gr sh l), .bool sh] 87 (0, 0))] :: H) := by
  refine SCalls.of_walk (n := 32) Tryz.func197 rfl rfl rfl fun cs => ?_
  refine At.seq ?_
  refine At.region ?_
  refine AtL.assign (.inl rfl) rfl rfl ?_
  refine AtL.done ?_
  refine At.seq ?_
  refine At.seq ?_
  refine At.region ?_
  refine AtL.move (.inl rfl) rfl rfl ?_
  refine AtL.nilCheck (.inl rfl) rfl rfl ?_
  refine AtL.fieldAddrB tf_fo87_5 (.inl rfl) rfl rfl rfl ?_
  refine AtL.load tf_flat4 (.inl rfl) rfl rfl (Cell.own 0 0 rfl rfl rfl) ?_
  refine AtL.move (.inl rfl) rfl rfl ?_
  refine AtL.join 4 (E' := [(17, .bool (decide ((sh = true) ∨ ((l.length : Int) = 0)))), (0, .pointer (some ⟨b, 0, none⟩)), (1, .slice A l.length C)]) (H' := [(b, .cells #[vb, .bool hello, .bool off, .bool out, .bool gr, .bool sh] 87 (0, 0))] :: H) (fun J => ?_) ?_
  · refine AtL.split (t := 13) rfl ?_ ?_
    · intro hs13
      have hs13 : sh = true := hs13
      refine AtL.skipped rfl rfl rfl rfl rfl rfl ?_
      refine AtL.skipped rfl rfl rfl rfl rfl rfl ?_
      refine AtL.skipped rfl rfl rfl rfl rfl rfl ?_
      refine AtL.pickT (.inl rfl) rfl rfl rfl ?_
      exact J _ (by exact ⟨(boolIs (by clear J; first | (simp [hs13]; done) | (simp_all; done) | grind)), rfl, rfl, trivial⟩)
    · intro hs13
      have hs13 : sh = false := hs13
      refine AtL.move (.inr ⟨_, _, _, rfl, rfl, rfl, rfl⟩) rfl rfl ?_
      refine AtL.lenL Tryz.underlying34 (.inr ⟨_, _, _, rfl, rfl, rfl, rfl⟩) rfl rfl ?_
      refine AtL.eqi (.inr ⟨_, _, _, rfl, rfl, rfl, rfl⟩) rfl rfl rfl ?_
      refine AtL.pickF (.inl rfl) rfl rfl rfl ?_
      exact J _ (by exact ⟨(boolIs (by clear J; first | (simp [hs13]; done) | (simp_all; done) | grind)), rfl, rfl, trivial⟩)
  · skip
    refine AtL.done ?_
    refine At.cond rfl ?_ ?_
    · intro hc1
      have hc1 : (sh = true) ∨ ((l.length : Int) = 0) := of_decide_eq_true hc1
      refine At.seq ?_
      refine At.region ?_
      refine AtL.assign (.inl rfl) rfl rfl ?_
      refine AtL.done ?_
      refine At.nil ?_
      exact At.ret Tryz.func197 rfl rfl (⟨Sl.nil, by rw [sendF, if_pos (by grind)]; rfl, rfl, by rw [sentF, if_neg (by grind)]; rfl⟩)
    · intro hc1
      have hc1 : ¬ ((sh = true) ∨ ((l.length : Int) = 0)) := of_decide_eq_false hc1
      refine At.skip ?_
      refine At.seq ?_
      refine At.region ?_
      refine AtL.move (.inl rfl) rfl rfl ?_
      refine AtL.call tf_body199 (.inl rfl) rfl rfl greet_ok ?_
      rintro _ _ ⟨⟨A3, C4, l5, s6, o7⟩, hx2, rfl, rfl⟩
      obtain rfl : greetF gr = l5 := hx2.symm
      refine AtL.alloc tf_zero34 (cs := #[.slice none 0 0]) rfl (.inl rfl) rfl ?_
      intro b8
      refine AtL.store (H' := [(b8, .cells #[.slice A3 (greetF gr).length C4] 34 (0, 0))] :: s6 :: [(b, .cells #[vb, .bool hello, .bool off, .bool out, .bool true, .bool sh] 87 (0, 0))] :: H) 0 0 tf_sz34 (.inl rfl) rfl rfl rfl rfl rfl rfl rfl rfl rfl ?_
      refine AtL.done ?_
      refine At.seq ?_
      refine At.seq ?_
      refine At.region ?_
      refine AtL.move (.inl rfl) rfl rfl ?_
      refine AtL.call tf_body202 (.inl rfl) rfl rfl (chunk_ok (l := l) 1024 (by omega)) ?_
      rintro _ _ ⟨bs9, bn10, rfl, rfl⟩
      refine AtL.done ?_
      refine At.block ?_
      refine At.rangeF (R := fun L lp rr v H' => ∃ x : Sl tyB 5, x.l = greetF gr ++ recs l ∧ H' = [(bs9, .cells #[.slice A l.length C] 34 (0, 0))] :: [(bn10, .cells #[.int .i64 1024] 3 (0, 0))] :: [(lp, .loop L)] :: [(rr, .deferred (some []))] :: x.s :: [(b8, .cells #[.slice x.A x.l.length x.C] 34 (0, 0))] :: [(b, .cells #[vb, .bool hello, .bool off, .bool out, .bool true, .bool sh] 87 (0, 0))] :: H) rfl tf_body207 rfl (fun lp => rfl) (fun L lp rr hL => ?_) (fun L lp rr v H1 hL hR => ?_)
      · skip
        refine SCalls.pick (H' := [(bs9, .cells #[.slice A l.length C] 34 (0, 0))] :: [(bn10, .cells #[.int .i64 1024] 3 (0, 0))] :: [(lp, .loop L)] :: [(rr, .deferred (some []))] :: s6 :: [(b8, .cells #[.slice A3 (greetF gr).length C4] 34 (0, 0))] :: [(b, .cells #[vb, .bool hello, .bool off, .bool out, .bool true, .bool sh] 87 (0, 0))] :: H) [3, 2, 0, 1, 5, 4, 6] 7 rfl rfl ?_
        refine SCalls.mono (chunkit_ok (T := H) (Hc := [[(lp, .loop L)], [(rr, .deferred (some []))], s6, [(b8, .cells #[.slice A3 (greetF gr).length C4] 34 (0, 0))], [(b, .cells #[vb, .bool hello, .bool off, .bool out, .bool true, .bool sh] 87 (0, 0))]]) (J := (fun i Hc => ∃ x : Sl tyB 5, x.l ++ recs (l.drop i) = greetF gr ++ recs l ∧ x.l.length ≤ 4 + 4 * i ∧ Hc = [[(lp, .loop L)], [(rr, .deferred (some []))], x.s, [(b8, .cells #[.slice x.A x.l.length x.C] 34 (0, 0))], [(b, .cells #[vb, .bool hello, .bool off, .bool out, .bool true, .bool sh] 87 (0, 0))]])) h (by omega) 1024 (by omega) (by omega) (fun i Hc hi hJ T' A' C' rd => ?_) ⟨⟨A3, C4, greetF gr, s6, o7⟩, rfl, (by have := greet_len gr; simp; omega), rfl⟩) (fun v H' hp => ?_)
        · skip
          obtain ⟨x, hI, hlen, rfl⟩ := hJ
          have hln : (subl l i (i + min 1024 (l.length - i))).length = min 1024 (l.length - i) := by rw [subl_len (by omega)]; omega
          refine YCalls.walkL hL (i := 0) (j := 0) rfl rfl rfl rfl rfl (fun c cs => ?_)
          refine At.region ?_
          refine AtL.assign (.inl rfl) rfl rfl ?_
          refine AtL.done ?_
          refine At.beginL 0 0 hL rfl rfl rfl rfl ?_
          refine At.block ?_
          refine At.seq ?_
          refine At.region ?_
          refine AtL.move (.inl rfl) rfl rfl ?_
          refine AtL.call tf_body198 (.inl rfl) rfl rfl (rec_ok (l := subl l i (i + min 1024 (l.length - i))) (Rd.skip 5 rd) (by first | omega | (simp only [List.length_append, List.length_cons, List.length_nil, recB_len, hln]; omega) | (simp [recB_len, hln]; done) | (simp [recB_len, hln]; omega)) 2) ?_
          rintro _ _ ⟨A11, C12, s13, l15, o14, hl16, rfl, rfl⟩
          obtain rfl : recB 2 (subl l i (i + min 1024 (l.length - i))) = l15 := (hl16.trans (recL_data _ (by rw [hln]; omega))).symm
          refine AtL.move (.inl rfl) rfl rfl ?_
          refine AtL.extract (.inl rfl) rfl rfl rfl ?_
          refine AtL.extract (.inl rfl) rfl rfl rfl ?_
          refine AtL.assign (.inl rfl) rfl rfl ?_
          refine AtL.assign (.inl rfl) rfl rfl ?_
          refine AtL.done ?_
          refine At.region ?_
          refine AtL.load tf_flat34 (.inl rfl) rfl rfl (Cell.own 4 0 rfl rfl rfl) ?_
          refine AtL.move (.inl rfl) rfl rfl ?_
          refine AtL.append (l := x.l) (news := recB 2 (subl l i (i + min 1024 (l.length - i)))) 3 tf_el34 rfl x.own (o14.rd (i := 0) rfl) (by first | omega | (simp only [List.length_append, List.length_cons, List.length_nil, recB_len, hln]; omega) | (simp [recB_len, hln]; done) | (simp [recB_len, hln]; omega)) (.inl rfl) rfl rfl rfl ?_
          intro A17 C18 s19 o20
          refine AtL.store (H' := s13 :: [(lp, .loop (busyL L))] :: [(rr, .deferred (some []))] :: s19 :: [(b8, .cells #[.slice A17 (x.l ++ (recB 2 (subl l i (i + min 1024 (l.length - i))))).length C18] 34 (0, 0))] :: [(b, .cells #[vb, .bool hello, .bool off, .bool out, .bool true, .bool sh] 87 (0, 0))] :: T') 4 0 tf_sz34 (.inl rfl) rfl rfl rfl rfl rfl rfl rfl rfl rfl ?_
          refine AtL.done ?_
          refine At.inBlock ?_
          refine At.pick (H' := [(lp, .loop (busyL L))] :: [(rr, .deferred (some []))] :: s19 :: [(b8, .cells #[.slice A17 (x.l ++ (recB 2 (subl l i (i + min 1024 (l.length - i))))).length C18] 34 (0, 0))] :: [(b, .cells #[vb, .bool hello, .bool off, .bool out, .bool true, .bool sh] 87 (0, 0))] :: T') [1, 2, 3, 4, 5] 6 rfl rfl ?_
          exact At.roundEndL 0 0 hL rfl rfl rfl (⟨rfl, [[(lp, .loop L)], [(rr, .deferred (some []))], s19, [(b8, .cells #[.slice A17 (x.l ++ (recB 2 (subl l i (i + min 1024 (l.length - i))))).length C18] 34 (0, 0))], [(b, .cells #[vb, .bool hello, .bool off, .bool out, .bool true, .bool sh] 87 (0, 0))]], rfl, ⟨A17, C18, x.l ++ (recB 2 (subl l i (i + min 1024 (l.length - i)))), s19, o20⟩, recs_cut2 i _ rfl hi hI, by simp only [List.length_append, recB_len, hln]; omega, rfl⟩)
        · skip
          obtain ⟨rfl, Hc', rfl, x, hI, hlen, rfl⟩ := hp
          exact ⟨x, by rw [← hI, List.drop_length, recs_nil, List.append_nil], rfl⟩
      · skip
        obtain ⟨x, hI, rfl⟩ := hR
        refine ⟨2, 0, _, L, _, rfl, rfl, loop_ready hL, rfl, ?_⟩
        rw [loop_dry hL]
        refine At.inBlock ?_
        refine At.seq ?_
        refine At.region ?_
        refine AtL.load tf_flat34 (.inl rfl) rfl rfl (Cell.own 5 0 rfl rfl rfl) ?_
        refine AtL.assign (.inl rfl) rfl rfl ?_
        refine AtL.done ?_
        refine At.retU rfl ?_
        refine Un.collected (i := 3) (j := 0) rfl rfl rfl rfl ?_
        exact Un.leftP (vs := [.slice x.A x.l.length x.C]) (H2 := x.s :: [(b, .cells #[vb, .bool hello, .bool off, .bool out, .bool true, .bool sh] 87 (0, 0))] :: H) [4, 6] 7 rfl rfl Tryz.func197 rfl ⟨rfl, trivial⟩ (⟨x, by rw [sendF, if_neg (by grind)]; exact hI, rfl, by rw [sentF, if_pos (by grind)]⟩)
end Go.Proofs.YtbfabhdfmoiabaaGreatDoor
namespace Go.Proofs.YtbfabhdfmoiabaaGreatDoor
open Go.RowKit (Below)
set_option linter.unusedVariables false
set_option linter.unusedSimpArgs false
section
variable {X : Pt} {k : List Item} {E : Env} {ds : List Deferred} {H : List Seg}
end
theorem Do.own1 {X : Pt} {E : Env} {H : List Seg} {op : Op} {α : Type} (T : Ty α) {e n : Nat} {l : List α} {cs : Array Value} (hd : Does X E H op (fun v H' => ∃ b, v = .slice (some ⟨b, 0, none⟩) n n ∧ H' = [(b, .cells cs e (0, 0))] :: H)) (hcs : cs = (T.cells l).toArray) (hn : n = l.length) (hle : l.length ≤ 9223372036854775807) :
    Does X E H op (fun v H' => ∃ b s, Own T e (some ⟨b, 0, none⟩) n l s ∧ v = .slice (some ⟨b, 0, none⟩) n n ∧ H' = s :: H) := by
  refine hd.mono ?_
  rintro v H' ⟨b, rfl, rfl⟩
  obtain ⟨s, hs, ho⟩ := own_new T e b l n _ rfl hn hle
  exact ⟨b, s, ho, rfl, by rw [hs, hcs]⟩
section fields
variable {X : Pt} {k : List Item} {E : Env} {ds : List Deferred} {H : List Seg} {ops : Array Oper} {os : List Oper}
  {d : Nat} {ty : TypeId} {pos : String} {after : Array Edge} {g : Option (Nat × Bool)}
end fields
end Go.Proofs.YtbfabhdfmoiabaaGreatDoor
namespace Go.Proofs.YtbfabhdfmoiabaaGreatDoor
open Go.RowKit (Below)
set_option linter.unusedVariables false
set_option linter.unusedSimpArgs false
section calls
variable {P : Program} {f : FuncId} {args : List Value} {w0 : World} {base : Nat} {H : List Seg}
theorem Sep.cellBelow {w : World} (S : Sep w0 base w H) {b o : Nat} {v : Value} (hb : b < base) (h : w0.cell? ⟨b, o, none⟩ = some v) : w.cell? ⟨b, o, none⟩ = some v := by
  have h2 := S.below.block b hb
  rw [← h]
  simp only [World.cell?, h2]
end calls
end Go.Proofs.YtbfabhdfmoiabaaGreatDoor
namespace Go.Proofs.YtbfabhdfmoiabaaGreatDoor
open Go.RowKit (Below)
set_option linter.unusedVariables false
set_option linter.unusedSimpArgs false
section
variable {X : Pt} {k : List Item} {E : Env} {ds : List Deferred} {H : List Seg} {ops : Array Oper} {os : List Oper}
  {d : Nat} {ty : TypeId} {pos : String} {after : Array Edge} {g : Option (Nat × Bool)}
theorem getObj_at {P : Program} {w : World} {b : Nat} {o : Obj} (h : w.heap[b]? = some o) (hc : isCellsO o = false) : (getObj b).run P w = .ok o w := by
  cases o <;> first | (cases hc; done) | simp [getObj, Sem.run, h]
theorem Cell.below {w0 : World} {base b o : Nat} {v : Value} (hb : b < base) (h : w0.cell? ⟨b, o, none⟩ = some v) : Cell w0 base H ⟨b, o, none⟩ v := fun w S => S.cellBelow hb h
theorem Cell.tab {w0 : World} {base b j : Nat} {v : Value} (hb : b < base) (h : w0.cell? ⟨b, j, none⟩ = some v) : Cell w0 base H (eaddr (some ⟨b, 0, none⟩) (j * 1)) v := by
  have e : eaddr (some ⟨b, 0, none⟩) (j * 1) = ⟨b, j, none⟩ := by simp [eaddr, addr_add]
  rw [e]
  exact Cell.below hb h
end
end Go.Proofs.YtbfabhdfmoiabaaGreatDoor
namespace Go.Proofs.YtbfabhdfmoiabaaGreatDoor
open Go.RowKit (Below)
set_option linter.unusedVariables false
set_option linter.unusedSimpArgs false
set_option linter.unusedSectionVars false
structure Ky (κ : Type) where
  val : κ → Value
  kd : TypeDesc → Bool
  same : ∀ d a b, kd d = true → ∃ t : Bool, Instr.sameNow d (val a) (val b) = some t ∧ (t = true ↔ a = b)
  plain : ∀ d, kd d = true → (match d with | .interface _ => false | .array _ _ => false | .struct _ => false | _ => true) = true
def kyI : Ky Int where
  val := int
  kd d := match d with | .int _ => true | _ => false
  same d a b h := by
    cases d <;> first | (cases h; done) | exact ⟨a == b, by simp [Instr.sameNow, int], by simp⟩
  plain d h := by cases d <;> first | (cases h; done) | rfl
section
variable {κ β : Type} (Q : Ky κ) (tv : β → Value)
def mapE : Nat → List (κ × β) → List MapEntry
  | _, [] => []
  | n, p :: r => ⟨Q.val p.1, tv p.2, n⟩ :: mapE (n + 1) r
def mapO (kvs : List (κ × β)) : Obj := .map (mapE Q tv 0 kvs).toArray kvs.length
end
def atK {κ β : Type} [DecidableEq κ] (a : κ) : List (κ × β) → Option β
  | [] => none
  | p :: r => if a = p.1 then some p.2 else atK a r
section
variable {κ β : Type} [DecidableEq κ] {Q : Ky κ} {tv : β → Value}
theorem findNow_at {d : TypeDesc} (hd : Q.kd d = true) (a : κ) (kvs : List (κ × β)) (n i : Nat) : ∃ r, Instr.findNow d (Q.val a) (mapE Q tv n kvs) i = some r ∧ r.map (·.2) = (atK a kvs).map tv := by
  induction kvs generalizing n i with
  | nil => exact ⟨none, rfl, rfl⟩
  | cons p r ih =>
    obtain ⟨t, ht, hab⟩ := Q.same d a p.1 hd
    rw [mapE, Instr.findNow]
    simp only [ht]
    cases t with
    | true => exact ⟨_, rfl, by rw [atK, if_pos (hab.1 rfl)]; rfl⟩
    | false =>
      obtain ⟨q, h1, h2⟩ := ih (n + 1) (i + 1)
      have : ¬ a = p.1 := fun h => by have := hab.2 h; cases this
      exact ⟨q, h1, by rw [atK, if_neg this]; exact h2⟩
theorem checkKey_run {P : Program} {w : World} {t : TypeId} {d : TypeDesc} (hu : P.underlying t = some d) (hd : Q.kd d = true) (a : κ) (e : Bool) : (Instr.checkKey e 10000 t (Q.val a)).run P w = .ok () w := by
  have hp := Q.plain d hd
  show (Instr.checkKey e (9999 + 1) t (Q.val a)).run P w = _
  unfold Instr.checkKey
  simp only [run_underlying hu, Sem.run_bind, Result.andThen_ok]
  cases d <;> first | (cases hp; done) | rfl
end
section
variable {X : Pt} {k : List Item} {E : Env} {ds : List Deferred} {H : List Seg} {ops : Array Oper} {os : List Oper}
  {d : Nat} {ty : TypeId} {pos : String} {after : Array Edge} {g : Option (Nat × Bool)} {κ β : Type} [DecidableEq κ] {Q : Ky κ} {tv : β → Value}
theorem Do.makeMap (Q : Ky κ) (tv : β → Value) {t : TypeId} : Does X E H (.makeMap t none) (fun v H' => ∃ b, v = .map (some b) ∧ H' = [(b, mapO Q tv ([] : List (κ × β)))] :: H) :=
  Does.core rfl fun dst ty pos after g ρ w hρ S => ⟨.map (some w.heap.size), w.alloc (.map #[] 0), _, by
    simp [execOp, Instr.makeMap, newObj, Sem.run], S.alloc _, w.heap.size, rfl, rfl⟩
theorem AtL.makeMap (Q : Ky κ) (tv : β → Value) {t : TypeId} (hg : Wd X ops E g) (hd : Nat.blt d X.n = true) (hk : ∀ b, AtL X ops os k ((d, .map (some b)) :: E) ds ([(b, mapO Q tv ([] : List (κ × β)))] :: H)) :
    AtL X ops (⟨some d, .makeMap t none, ty, pos, after, g⟩ :: os) k E ds H :=
  AtL.of (Do.makeMap Q tv) hg hd fun _ _ ⟨b, hv, hH⟩ => by subst hv; subst hH; exact hk b
theorem lookup_run {P : Program} {w : World} {t kt et : TypeId} {dd : TypeDesc} {b : Nat} {kvs : List (κ × β)} {a : κ} {z : Value} (ok : Bool) (hu : P.underlying t = some (.map kt et)) (hk : P.underlying kt = some dd) (hd : Q.kd dd = true) (hb : w.heap[b]? = some (mapO Q tv kvs)) (hz : zeroV P et = some z) :
    (Instr.lookup t (.map (some b)) (Q.val a) ok).run P w = .ok (if ok then .tuple #[((atK a kvs).map tv).getD z, .bool (atK a kvs).isSome] else ((atK a kvs).map tv).getD z) w := by
  obtain ⟨r, h1, h2⟩ := findNow_at (tv := tv) hd a kvs 0 0
  have hg : (getObj b).run P w = .ok (mapO Q tv kvs) w := getObj_at hb rfl
  unfold Instr.lookup
  simp only [run_underlying hu, Sem.run_bind, Result.andThen_ok, hg, mapO, Sem.run_pure, checkKey_run hk hd, Instr.findKey, run_underlying hk, h1]
  cases r with
  | none =>
    have h3 : atK a kvs = none := by cases h : atK a kvs with | none => rfl | some q => rw [h] at h2; cases h2
    simp only [zeroV_run hz, Sem.run_bind, Result.andThen_ok, Sem.run_pure, h3, Option.map_none, Option.getD_none, Option.isSome_none]
  | some q =>
    obtain ⟨q1, q2⟩ := q
    cases h3 : atK a kvs with
    | none => rw [h3] at h2; cases h2
    | some u =>
      rw [h3] at h2
      simp only [Option.map_some, Option.some.injEq] at h2
      subst h2
      cases ok <;> rfl
theorem Do.lookup {t kt et : TypeId} {dd : TypeDesc} {x y : Operand} {b : Nat} {kvs : List (κ × β)} {a : κ} {z : Value} {s : Seg} {v : Value} (ok : Bool) (i j : Nat) (hu : X.P.underlying t = some (.map kt et)) (hk : X.P.underlying kt = some dd) (hd : Q.kd dd = true) (hz : zeroV X.P et = some z)
    (hi : H[i]? = some s) (hj : s[j]? = some (b, mapO Q tv kvs)) (hx : ev E x = some (.map (some b))) (hy : ev E y = some (Q.val a)) (hv : (if ok then .tuple #[((atK a kvs).map tv).getD z, .bool (atK a kvs).isSome] else ((atK a kvs).map tv).getD z) = v) : Does X E H (.lookup t x y ok) (Is v H) :=
  Does.core rfl fun dst ty pos after g ρ w hρ S => ⟨v, w, H, by
    have := lookup_run (P := X.P) (a := a) ok hu hk hd (S.at_ hi hj).1 hz
    simp [execOp, hρ _ _ hx, hρ _ _ hy, this, hv], S, rfl, rfl⟩
theorem AtL.lookup {t kt et : TypeId} {dd : TypeDesc} {x y : Operand} {b : Nat} {kvs : List (κ × β)} {a : κ} {z : Value} {s : Seg} {v : Value} {ok : Bool} (i j : Nat) (hu : X.P.underlying t = some (.map kt et)) (hk : X.P.underlying kt = some dd) (hd : Q.kd dd = true) (hz : zeroV X.P et = some z) (hg : Wd X ops E g) (hd2 : Nat.blt d X.n = true)
    (hi : H[i]? = some s) (hj : s[j]? = some (b, mapO Q tv kvs)) (hx : ev E x = some (.map (some b))) (hy : ev E y = some (Q.val a)) (hv : (if ok then .tuple #[((atK a kvs).map tv).getD z, .bool (atK a kvs).isSome] else ((atK a kvs).map tv).getD z) = v) (hk2 : AtL X ops os k ((d, v) :: E) ds H) :
    AtL X ops (⟨some d, .lookup t x y ok, ty, pos, after, g⟩ :: os) k E ds H := AtL.ofIs (Do.lookup ok i j hu hk hd hz hi hj hx hy hv) hg hd2 hk2
end
end Go.Proofs.YtbfabhdfmoiabaaGreatDoor
namespace Go.Proofs.YtbfabhdfmoiabaaGreatDoor
open Go.RowKit (Below)
set_option linter.unusedVariables false
set_option linter.unusedSimpArgs false
set_option linter.unusedSectionVars false
section
variable {κ β : Type} (Q : Ky κ) (tv : β → Value)
def mapGE (l : List (κ × β × Nat)) : List MapEntry := l.map fun e => ⟨Q.val e.1, tv e.2.1, e.2.2⟩
def mapG (l : List (κ × β × Nat)) (n : Nat) : Obj := .map (mapGE Q tv l).toArray n
end
section
variable {κ β : Type} [DecidableEq κ]
def atG (a : κ) : List (κ × β × Nat) → Option β
  | [] => none
  | e :: r => if a = e.1 then some e.2.1 else atG a r
def setG (a : κ) (v : β) : List (κ × β × Nat) → List (κ × β × Nat)
  | [] => []
  | e :: r => if a = e.1 then (a, v, e.2.2) :: r else e :: setG a v r
def delG (a : κ) : List (κ × β × Nat) → List (κ × β × Nat)
  | [] => []
  | e :: r => if a = e.1 then r else e :: delG a r
end
theorem bitsI (a : Int) : Instr.sameBits 10000 (kyI.val a) (kyI.val a) = true := by
  show Instr.sameBits (9999 + 1) (int a) (int a) = true
  simp [Instr.sameBits, int]
section
variable {κ β : Type} [DecidableEq κ] {Q : Ky κ} {tv : β → Value}
theorem mapGE_app (l m : List (κ × β × Nat)) : mapGE Q tv (l ++ m) = mapGE Q tv l ++ mapGE Q tv m := by simp [mapGE]
theorem findNow_G {d : TypeDesc} (hd : Q.kd d = true) (a : κ) (l : List (κ × β × Nat)) (i : Nat) :
    (atG a l = none ∧ Instr.findNow d (Q.val a) (mapGE Q tv l) i = some none) ∨
    ∃ j u, atG a l = some u ∧ Instr.findNow d (Q.val a) (mapGE Q tv l) i = some (some (i + j, tv u)) ∧ j < l.length ∧ ((mapGE Q tv l)[j]?.map (·.key)) = some (Q.val a) ∧
      (∀ v, (mapGE Q tv l).modify j (fun e => { e with key := Q.val a, val := tv v }) = mapGE Q tv (setG a v l)) ∧ (mapGE Q tv l).eraseIdx j = mapGE Q tv (delG a l) := by
  induction l generalizing i with
  | nil => exact .inl ⟨rfl, rfl⟩
  | cons p r ih =>
    obtain ⟨t, ht, hab⟩ := Q.same d a p.1 hd
    have e0 : mapGE Q tv (p :: r) = ⟨Q.val p.1, tv p.2.1, p.2.2⟩ :: mapGE Q tv r := rfl
    rw [e0]
    simp only [Instr.findNow, ht]
    cases t with
    | true =>
      have hk := hab.1 rfl
      refine .inr ⟨0, p.2.1, by rw [atG, if_pos hk], rfl, Nat.succ_pos _, by rw [hk]; rfl, fun v => ?_, ?_⟩
      · rw [setG, if_pos hk]; rfl
      · rw [delG, if_pos hk]; rfl
    | false =>
      have hk : ¬ a = p.1 := fun h => by have := hab.2 h; cases this
      rcases ih (i + 1) with ⟨h1, h2⟩ | ⟨j, u, h1, h2, h3, h4, h5, h6⟩
      · exact .inl ⟨by rw [atG, if_neg hk]; exact h1, h2⟩
      · refine .inr ⟨j + 1, u, by rw [atG, if_neg hk]; exact h1, by rw [h2, show i + (j + 1) = i + 1 + j by omega], by simp only [List.length_cons]; omega, by simpa using h4, fun v => ?_, ?_⟩
        · rw [setG, if_neg hk, show mapGE Q tv (p :: setG a v r) = ⟨Q.val p.1, tv p.2.1, p.2.2⟩ :: mapGE Q tv (setG a v r) from rfl, ← h5 v]; rfl
        · rw [delG, if_neg hk, show mapGE Q tv (p :: delG a r) = ⟨Q.val p.1, tv p.2.1, p.2.2⟩ :: mapGE Q tv (delG a r) from rfl, ← h6]; rfl
theorem findKey_none {P : Program} {w : World} {kt : TypeId} {dd : TypeDesc} (hk : P.underlying kt = some dd) (hd : Q.kd dd = true) {a : κ} {l : List (κ × β × Nat)} (h : atG a l = none) : (Instr.findKey kt (Q.val a) (mapGE Q tv l)).run P w = .ok none w := by
  rcases findNow_G (tv := tv) hd a l 0 with ⟨h1, h2⟩ | ⟨j, u, h1, _⟩
  · unfold Instr.findKey
    simp only [run_underlying hk, Sem.run_bind, Result.andThen_ok, h2, Sem.run_pure]
  · rw [h] at h1; cases h1
theorem findKey_some {P : Program} {w : World} {kt : TypeId} {dd : TypeDesc} (hk : P.underlying kt = some dd) (hd : Q.kd dd = true) {a : κ} {u : β} {l : List (κ × β × Nat)} (h : atG a l = some u) : ∃ j, (Instr.findKey kt (Q.val a) (mapGE Q tv l)).run P w = .ok (some (j, tv u)) w ∧ j < l.length ∧ ((mapGE Q tv l)[j]?.map (·.key)) = some (Q.val a) ∧
      (∀ v, (mapGE Q tv l).modify j (fun e => { e with key := Q.val a, val := tv v }) = mapGE Q tv (setG a v l)) ∧ (mapGE Q tv l).eraseIdx j = mapGE Q tv (delG a l) := by
  rcases findNow_G (tv := tv) hd a l 0 with ⟨h1, h2⟩ | ⟨j, u', h1, h2, h3⟩
  · rw [h] at h1; cases h1
  · rw [h] at h1; cases h1
    refine ⟨j, ?_, h3⟩
    unfold Instr.findKey
    simp only [run_underlying hk, Sem.run_bind, Result.andThen_ok, h2, Sem.run_pure, Nat.zero_add]
end
section
variable {X : Pt} {k : List Item} {E : Env} {ds : List Deferred} {H : List Seg} {ops : Array Oper} {os : List Oper}
  {d : Nat} {ty : TypeId} {pos : String} {after : Array Edge} {g : Option (Nat × Bool)} {κ β : Type} [DecidableEq κ] {Q : Ky κ} {tv : β → Value}
theorem Do.makeMapG (Q : Ky κ) (tv : β → Value) {t : TypeId} : Does X E H (.makeMap t none) (fun v H' => ∃ b, v = .map (some b) ∧ H' = [(b, mapG Q tv ([] : List (κ × β × Nat)) 0)] :: H) := Do.makeMap Q tv
theorem AtL.makeMapG (Q : Ky κ) (tv : β → Value) {t : TypeId} (hg : Wd X ops E g) (hd : Nat.blt d X.n = true) (hk : ∀ b, AtL X ops os k ((d, .map (some b)) :: E) ds ([(b, mapG Q tv ([] : List (κ × β × Nat)) 0)] :: H)) :
    AtL X ops (⟨some d, .makeMap t none, ty, pos, after, g⟩ :: os) k E ds H :=
  AtL.of (Do.makeMapG Q tv) hg hd fun _ _ ⟨b, hv, hH⟩ => by subst hv; subst hH; exact hk b
theorem Do.lenM {t kt et : TypeId} {x : Operand} {b n : Nat} {l : List (κ × β × Nat)} {s : Seg} (i j : Nat) (hu : X.P.underlying t = some (.map kt et)) (hi : H[i]? = some s) (hj : s[j]? = some (b, mapG Q tv l n)) (hx : ev E x = some (.map (some b))) :
    Does X E H (.call ⟨.builtin .len, #[x], #[t]⟩) (Is (int (l.length : Int)) H) :=
  Does.core rfl fun dst ty pos after g ρ w hρ S => ⟨_, w, H, by
    have hg : (getObj b).run X.P w = .ok (mapG Q tv l n) w := getObj_at (S.at_ hi hj).1 rfl
    simp [execOp, resolve, invoke, builtin, hρ _ _ hx, Builtin.len_, run_underlying hu, goInt, hg, mapG, mapGE], S, rfl, rfl⟩
theorem lookupG_run {P : Program} {w : World} {t kt et : TypeId} {dd : TypeDesc} {b n : Nat} {l : List (κ × β × Nat)} {a : κ} {z : Value} (ok : Bool) (hu : P.underlying t = some (.map kt et)) (hk : P.underlying kt = some dd) (hd : Q.kd dd = true) (hb : w.heap[b]? = some (mapG Q tv l n)) (hz : zeroV P et = some z) :
    (Instr.lookup t (.map (some b)) (Q.val a) ok).run P w = .ok (if ok then .tuple #[((atG a l).map tv).getD z, .bool (atG a l).isSome] else ((atG a l).map tv).getD z) w := by
  have hg : (getObj b).run P w = .ok (mapG Q tv l n) w := getObj_at hb rfl
  unfold Instr.lookup
  simp only [run_underlying hu, Sem.run_bind, Result.andThen_ok, hg, mapG, Sem.run_pure, checkKey_run hk hd]
  cases h : atG a l with
  | none => simp only [findKey_none hk hd h, Sem.run_bind, Result.andThen_ok, zeroV_run hz, Sem.run_pure, Option.map_none, Option.getD_none, Option.isSome_none]
  | some u =>
    obtain ⟨j, h1, _⟩ := findKey_some (P := P) (w := w) (tv := tv) hk hd h
    simp only [h1, Sem.run_bind, Result.andThen_ok, Sem.run_pure, Option.map_some, Option.getD_some, Option.isSome_some]
theorem Do.lookupG {t kt et : TypeId} {dd : TypeDesc} {x y : Operand} {b n : Nat} {l : List (κ × β × Nat)} {a : κ} {z : Value} {s : Seg} {v : Value} {ok : Bool} (i j : Nat) (hu : X.P.underlying t = some (.map kt et)) (hk : X.P.underlying kt = some dd) (hd : Q.kd dd = true) (hz : zeroV X.P et = some z)
    (hi : H[i]? = some s) (hj : s[j]? = some (b, mapG Q tv l n)) (hx : ev E x = some (.map (some b))) (hy : ev E y = some (Q.val a)) (hv : (if ok then .tuple #[((atG a l).map tv).getD z, .bool (atG a l).isSome] else ((atG a l).map tv).getD z) = v) : Does X E H (.lookup t x y ok) (Is v H) :=
  Does.core rfl fun dst ty pos after g ρ w hρ S => ⟨v, w, H, by
    have := lookupG_run (P := X.P) (a := a) ok hu hk hd (S.at_ hi hj).1 hz
    simp [execOp, hρ _ _ hx, hρ _ _ hy, this, hv], S, rfl, rfl⟩
theorem AtL.lookupG {t kt et : TypeId} {dd : TypeDesc} {x y : Operand} {b n : Nat} {l : List (κ × β × Nat)} {a : κ} {z : Value} {s : Seg} {v : Value} {ok : Bool} (i j : Nat) (hu : X.P.underlying t = some (.map kt et)) (hk : X.P.underlying kt = some dd) (hd : Q.kd dd = true) (hz : zeroV X.P et = some z) (hg : Wd X ops E g) (hd2 : Nat.blt d X.n = true)
    (hi : H[i]? = some s) (hj : s[j]? = some (b, mapG Q tv l n)) (hx : ev E x = some (.map (some b))) (hy : ev E y = some (Q.val a)) (hv : (if ok then .tuple #[((atG a l).map tv).getD z, .bool (atG a l).isSome] else ((atG a l).map tv).getD z) = v) (hk2 : AtL X ops os k ((d, v) :: E) ds H) :
    AtL X ops (⟨some d, .lookup t x y ok, ty, pos, after, g⟩ :: os) k E ds H := AtL.ofIs (Do.lookupG i j hu hk hd hz hi hj hx hy hv) hg hd2 hk2
def putG (a : κ) (v : β) (l : List (κ × β × Nat)) (n : Nat) : List (κ × β × Nat) := if (atG a l).isSome then setG a v l else l ++ [(a, v, n)]
def putN (a : κ) (l : List (κ × β × Nat)) (n : Nat) : Nat := if (atG a l).isSome then n else n + 1
theorem putG_new {a : κ} {v : β} {l : List (κ × β × Nat)} {n : Nat} (h : atG a l = none) : putG a v l n = l ++ [(a, v, n)] := by rw [putG, h]; rfl
theorem putN_new {a : κ} {l : List (κ × β × Nat)} {n : Nat} (h : atG a l = none) : putN a l n = n + 1 := by rw [putN, h]; rfl
theorem mapUpdateG_run {P : Program} {w : World} {t kt et : TypeId} {dd : TypeDesc} {b n : Nat} {l : List (κ × β × Nat)} {a : κ} {v : β} (hu : P.underlying t = some (.map kt et)) (hk : P.underlying kt = some dd) (hd : Q.kd dd = true) (hbits : ∀ a, Instr.sameBits 10000 (Q.val a) (Q.val a) = true) (hb : w.heap[b]? = some (mapG Q tv l n)) :
    (Instr.mapUpdate t (.map (some b)) (Q.val a) (tv v)).run P w = .ok () { w with heap := w.heap.setIfInBounds b (mapG Q tv (putG a v l n) (putN a l n)) } := by
  have hg : (getObj b).run P w = .ok (mapG Q tv l n) w := getObj_at hb rfl
  have hs : ∀ o, (setObj b o).run P w = .ok () { w with heap := w.heap.setIfInBounds b o } := fun o => setObj_run hb rfl
  unfold Instr.mapUpdate
  simp only [run_underlying hu, Sem.run_bind, Result.andThen_ok, hg, mapG, checkKey_run hk hd]
  cases h : atG a l with
  | none =>
    simp only [findKey_none hk hd h, Sem.run_bind, Result.andThen_ok, hs, putG, putN, h, Option.isSome_none, Bool.false_eq_true, if_false, mapGE_app, List.push_toArray]
    rfl
  | some u =>
    obtain ⟨j, h1, h2, h3, h4, _⟩ := findKey_some (P := P) (w := w) (tv := tv) hk hd h
    have h3' : Option.map (fun e : MapEntry => e.key) (mapGE Q tv l)[j]? = some (Q.val a) := h3
    simp only [h1, Sem.run_bind, Result.andThen_ok, putG, putN, h, Option.isSome_some, if_true, Instr.keyThatStays, List.getElem?_toArray, h3', Option.getD_some, hbits, Sem.run_pure, hs, List.modify_toArray]
    rw [← h4 v]
theorem Do.putG {t kt et : TypeId} {dd : TypeDesc} {x y z : Operand} {b n : Nat} {l : List (κ × β × Nat)} {a : κ} {v : β} {s : Seg} {H' : List Seg} (i j : Nat) (hu : X.P.underlying t = some (.map kt et)) (hk : X.P.underlying kt = some dd) (hd : Q.kd dd = true) (hbits : ∀ a, Instr.sameBits 10000 (Q.val a) (Q.val a) = true)
    (hi : H[i]? = some s) (hj : s[j]? = some (b, mapG Q tv l n)) (hx : ev E x = some (.map (some b))) (hy : ev E y = some (Q.val a)) (hz : ev E z = some (tv v)) (hH : H.set i (s.set j (b, mapG Q tv (Proofs.YtbfabhdfmoiabaaGreatDoor.putG a v l n) (putN a l n))) = H') : Does X E H (.mapUpdate t x y z) (fun u H2 => u = undef ∧ H2 = H') :=
  Does.coreU rfl fun dst ty pos after g ρ w hρ S => by
    have hb := (S.at_ hi hj).1
    refine ⟨_, H', ?_, hH ▸ S.setObj hi hj _, rfl, rfl⟩
    have := mapUpdateG_run (P := X.P) (a := a) (v := v) hu hk hd hbits hb
    simp [execOp, hρ _ _ hx, hρ _ _ hy, hρ _ _ hz, this]
theorem AtL.putG {t kt et : TypeId} {dd : TypeDesc} {x y z : Operand} {b n : Nat} {l : List (κ × β × Nat)} {a : κ} {v : β} {s : Seg} {H' : List Seg} (i j : Nat) (hu : X.P.underlying t = some (.map kt et)) (hk : X.P.underlying kt = some dd) (hd : Q.kd dd = true) (hbits : ∀ a, Instr.sameBits 10000 (Q.val a) (Q.val a) = true) (hg : Wd X ops E g)
    (hi : H[i]? = some s) (hj : s[j]? = some (b, mapG Q tv l n)) (hx : ev E x = some (.map (some b))) (hy : ev E y = some (Q.val a)) (hz : ev E z = some (tv v)) (hH : H.set i (s.set j (b, mapG Q tv (Proofs.YtbfabhdfmoiabaaGreatDoor.putG a v l n) (putN a l n))) = H') (hk2 : AtL X ops os k E ds H') :
    AtL X ops (⟨none, .mapUpdate t x y z, ty, pos, after, g⟩ :: os) k E ds H :=
  AtL.of (Do.putG i j hu hk hd hbits hi hj hx hy hz hH) hg rfl fun _ _ ⟨hv, hH⟩ => by subst hv; subst hH; exact hk2
theorem deleteG_run {P : Program} {w : World} {t t2 ty kt et : TypeId} {dd : TypeDesc} {b n : Nat} {l : List (κ × β × Nat)} {a : κ} (hu : P.underlying t = some (.map kt et)) (hk : P.underlying kt = some dd) (hd : Q.kd dd = true) (hb : w.heap[b]? = some (mapG Q tv l n)) :
    (Builtin.delete_ #[t, t2] ty #[.map (some b), Q.val a]).run P w = .ok (.tuple #[]) { w with heap := w.heap.setIfInBounds b (mapG Q tv (delG a l) n) } := by
  have hg : (getObj b).run P w = .ok (mapG Q tv l n) w := getObj_at hb rfl
  have hs : ∀ o, (setObj b o).run P w = .ok () { w with heap := w.heap.setIfInBounds b o } := fun o => setObj_run hb rfl
  unfold Builtin.delete_
  simp only [List.getElem?_toArray, List.getElem?_cons_zero, List.getElem?_cons_succ, run_underlying hu, Sem.run_bind, Result.andThen_ok, hg, mapG, checkKey_run hk hd]
  cases h : atG a l with
  | none =>
    have e : delG a l = l := by
      induction l with
      | nil => rfl
      | cons p r ih =>
        by_cases hp : a = p.1
        · rw [atG, if_pos hp] at h; cases h
        · rw [atG, if_neg hp] at h
          rw [delG, if_neg hp]
          exact congrArg _ (by
            clear hb hg ih
            revert h
            induction r with
            | nil => intro _; rfl
            | cons q s ih2 =>
              intro h
              by_cases hq : a = q.1
              · rw [atG, if_pos hq] at h; cases h
              · rw [atG, if_neg hq] at h
                rw [delG, if_neg hq, ih2 h])
    simp only [findKey_none hk hd h, Sem.run_bind, Result.andThen_ok, hs, Sem.run_pure, e]
  | some u =>
    obtain ⟨j, h1, h2, h3, h4, h5⟩ := findKey_some (P := P) (w := w) (tv := tv) hk hd h
    simp only [h1, Sem.run_bind, Result.andThen_ok, hs, Sem.run_pure, ← h5, List.eraseIdxIfInBounds_toArray]
theorem Do.deleteG {t t2 kt et : TypeId} {dd : TypeDesc} {x y : Operand} {b n : Nat} {l : List (κ × β × Nat)} {a : κ} {s : Seg} {H' : List Seg} (i j : Nat) (hu : X.P.underlying t = some (.map kt et)) (hk : X.P.underlying kt = some dd) (hd : Q.kd dd = true)
    (hi : H[i]? = some s) (hj : s[j]? = some (b, mapG Q tv l n)) (hx : ev E x = some (.map (some b))) (hy : ev E y = some (Q.val a)) (hH : H.set i (s.set j (b, mapG Q tv (delG a l) n)) = H') : Does X E H (.call ⟨.builtin .delete, #[x, y], #[t, t2]⟩) (fun u H2 => u = .tuple #[] ∧ H2 = H') :=
  Does.core rfl fun dst ty pos after g ρ w hρ S => by
    have hb := (S.at_ hi hj).1
    refine ⟨_, _, H', ?_, hH ▸ S.setObj hi hj _, rfl, rfl⟩
    have := deleteG_run (P := X.P) (a := a) (t2 := t2) (ty := ty) hu hk hd hb
    simp [execOp, resolve, invoke, builtin, hρ _ _ hx, hρ _ _ hy, this]
theorem AtL.deleteG {dst : Option Tmp} {t t2 kt et : TypeId} {dd : TypeDesc} {x y : Operand} {b n : Nat} {l : List (κ × β × Nat)} {a : κ} {s : Seg} {H' : List Seg} (i j : Nat) (hu : X.P.underlying t = some (.map kt et)) (hk : X.P.underlying kt = some dd) (hd : Q.kd dd = true) (hg : Wd X ops E g) (hd2 : dstOk X.n dst = true)
    (hi : H[i]? = some s) (hj : s[j]? = some (b, mapG Q tv l n)) (hx : ev E x = some (.map (some b))) (hy : ev E y = some (Q.val a)) (hH : H.set i (s.set j (b, mapG Q tv (delG a l) n)) = H') (hk2 : AtL X ops os k (putE E dst (.tuple #[])) ds H') :
    AtL X ops (⟨dst, .call ⟨.builtin .delete, #[x, y], #[t, t2]⟩, ty, pos, after, g⟩ :: os) k E ds H :=
  AtL.of (Do.deleteG i j hu hk hd hi hj hx hy hH) hg hd2 fun _ _ ⟨hv, hH⟩ => by subst hv; subst hH; exact hk2
end
end Go.Proofs.YtbfabhdfmoiabaaGreatDoor
