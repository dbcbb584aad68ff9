/- Bytes as letters: Decode. -/
import Derived.Test.YtlkdmbpbjhjkfaaGreatDoorE1
namespace Go.Proofs.YtlkdmbpbjhjkfaaGreatDoor
set_option linter.unusedVariables false
set_option linter.unusedSimpArgs false
set_option maxRecDepth 100000

theorem size_half {n : Nat} (h : n % 4 ≠ 1) : ((n / 4 * 3 : Nat) : Int) + max ((n % 4 : Nat) - 1 : Int) 0 = ((6 * n / 8 : Nat) : Int) := by omega
theorem u8_same {c d : UInt8} (h : (c.toNat : Int) = (d.toNat : Int)) : c = d := UInt8.toNat_inj.1 (by omega)
theorem take_all {s : List UInt8} {k : Nat} (h : k < s.length) (ha : (s.take k).all (fun c => decide (num64 c < 64)) = true) (hc : num64 (s.getD k 0) < 64) : (s.take (k + 1)).all (fun c => decide (num64 c < 64)) = true := by
  rw [List.take_succ_eq_append_getElem h, List.all_append, ha]
  have : s[k] = s.getD k 0 := by simp [List.getD, h]
  rw [List.all_cons, List.all_nil, this, decide_eq_true hc]; rfl
theorem bits_take {s : List UInt8} {k : Nat} (h : k < s.length) : bitsS (s.take (k + 1)) = bitsS (s.take k) ++ b6 (num64 (s.getD k 0)) := by
  rw [List.take_succ_eq_append_getElem h, bitsS_app]
  have : s[k] = s.getD k 0 := by simp [List.getD, h]
  rw [this]; simp [bitsS]
theorem byte_bits {q : List Bool} (h : 8 ≤ q.length) : bits8 [UInt8.ofNat (bv (q.take 8))] = q.take 8 := by
  have : (q.take 8).length = 8 := by rw [List.length_take]; omega
  simp only [bits8, List.flatMap_cons, List.flatMap_nil, List.append_nil]
  exact b8_bv this
theorem dec_push {s x : List UInt8} {p : List Bool} {k : Nat} (hk : k < s.length) (h : bits8 x ++ p = bitsS (s.take k)) (h8 : 8 ≤ (p ++ b6 (num64 (s.getD k 0))).length) : bits8 (x ++ [UInt8.ofNat (bv ((p ++ b6 (num64 (s.getD k 0))).take 8))]) ++ (p ++ b6 (num64 (s.getD k 0))).drop 8 = bitsS (s.take (k + 1)) := by
  rw [bits8_app, byte_bits h8, List.append_assoc, List.take_append_drop, bits_take hk, ← h, List.append_assoc]
theorem dec_keep {s x : List UInt8} {p : List Bool} {k : Nat} (hk : k < s.length) (h : bits8 x ++ p = bitsS (s.take k)) : bits8 x ++ (p ++ b6 (num64 (s.getD k 0))) = bitsS (s.take (k + 1)) := by
  rw [bits_take hk, ← h, List.append_assoc]

set_option maxHeartbeats 400000 in
theorem size_ok {w0 : World} {base : Nat} {H : List Seg} (n : Nat) (hn : n ≤ 4294967280) :
    SCalls Tryz.prog 131 [.int .i64 (n : Int)] w0 base (H) (fun v H' => ∃ z : Int, v = .tuple #[int z, .bool (decide (n % 4 ≠ 1))] ∧ H' = H) := by
  refine SCalls.of_walk (n := 19) Tryz.func131 rfl rfl rfl fun cs => ?_
  refine At.seq ?_
  refine At.region ?_
  refine AtL.assign (.inl rfl) rfl rfl ?_
  refine AtL.assign (.inl rfl) rfl rfl ?_
  refine AtL.done ?_
  refine At.seq ?_
  refine At.seq ?_
  refine At.region ?_
  refine AtL.move (.inl rfl) rfl rfl ?_
  refine AtL.lss (.inl rfl) rfl rfl rfl ?_
  refine AtL.move (.inl rfl) rfl rfl ?_
  refine AtL.join 4 (E' := [(10, .bool (decide (((n : Int) < 0) ∨ (((n % 4 : Nat) : Int) = 1)))), (0, .int .i64 (n : Int))]) (H' := H) (fun J => ?_) ?_
  · refine AtL.split (t := 6) rfl ?_ ?_
    · intro hs6
      have hs6 : (n : Int) < 0 := of_decide_eq_true hs6
      refine AtL.skipped rfl rfl rfl rfl rfl rfl ?_
      refine AtL.skipped rfl rfl rfl rfl rfl rfl ?_
      refine AtL.skipped rfl rfl rfl rfl rfl rfl ?_
      refine AtL.pickT (.inl rfl) rfl rfl rfl ?_
      exact J _ (by exact ⟨(boolIs (by clear J; first | (simp [hs6]; done) | (simp_all; done) | grind)), rfl, trivial⟩)
    · intro hs6
      have hs6 : ¬ ((n : Int) < 0) := of_decide_eq_false hs6
      refine AtL.move (.inr ⟨_, _, _, rfl, rfl, rfl, rfl⟩) rfl rfl ?_
      refine AtL.rem (z := ((n % 4 : Nat) : Int)) (.inr ⟨_, _, _, rfl, rfl, rfl, rfl⟩) rfl rfl rfl (by omega) (by rw [Int.natCast_emod]; exact rem_eq (by omega)) ?_
      refine AtL.eqi (.inr ⟨_, _, _, rfl, rfl, rfl, rfl⟩) rfl rfl rfl ?_
      refine AtL.pickF (.inl rfl) rfl rfl rfl ?_
      exact J _ (by exact ⟨(boolIs (by clear J; first | (simp [hs6]; done) | (simp_all; done) | grind)), rfl, trivial⟩)
  · skip
    refine AtL.done ?_
    refine At.cond rfl ?_ ?_
    · intro hc1
      have hc1 : ((n : Int) < 0) ∨ (((n % 4 : Nat) : Int) = 1) := of_decide_eq_true hc1
      refine At.seq ?_
      refine At.region ?_
      refine AtL.assign (.inl rfl) rfl rfl ?_
      refine AtL.assign (.inl rfl) rfl rfl ?_
      refine AtL.done ?_
      exact At.ret Tryz.func131 rfl rfl (⟨_, by simp only [oneOf]; congr 3; simp; omega, rfl⟩)
    · intro hc1
      have hc1 : ¬ (((n : Int) < 0) ∨ (((n % 4 : Nat) : Int) = 1)) := of_decide_eq_false hc1
      refine At.skip ?_
      refine At.seq ?_
      refine At.region ?_
      refine AtL.move (.inl rfl) rfl rfl ?_
      refine AtL.quo (z := (n : Int) / 4) (.inl rfl) rfl rfl rfl (by omega) (quo_eq (by omega) (by omega) (by omega)) ?_
      refine AtL.mul (z := ((n : Int) / 4) * 3) (.inl rfl) rfl rfl rfl (w64 (by omega) (by omega)) ?_
      refine AtL.move (.inl rfl) rfl rfl ?_
      refine AtL.rem (z := (n : Int) % 4) (.inl rfl) rfl rfl rfl (by omega) (rem_eq (by omega)) ?_
      refine AtL.sub (z := ((n : Int) % 4) - 1) (.inl rfl) rfl rfl rfl (w64 (by omega) (by omega)) ?_
      refine AtL.maxZ (z := max (((n : Int) % 4) - 1) 0) (.inl rfl) rfl rfl rfl (by omega) ?_
      refine AtL.add (z := (((n : Int) / 4) * 3) + (max (((n : Int) % 4) - 1) 0)) (.inl rfl) rfl rfl rfl (w64 (by omega) (by omega)) ?_
      refine AtL.assign (.inl rfl) rfl rfl ?_
      refine AtL.assign (.inl rfl) rfl rfl ?_
      refine AtL.done ?_
      exact At.ret Tryz.func131 rfl rfl (⟨_, by simp only [oneOf]; congr 3; simp; omega, rfl⟩)

set_option maxHeartbeats 400000 in
theorem b64dec_ok {w0 : World} {base : Nat} {H : List Seg} {s : List UInt8} (hs : s.length ≤ 4294967280) :
    SCalls Tryz.prog 90 [str s] w0 base (H) (fun v H' => ∃ (x : Sl tyB 5) (at_ : Int), x.l = (decB s).getD [] ∧ v = .tuple #[.slice x.A x.l.length x.C, .agg #[int (if (decB s).isSome = true then 0 else 4), int at_]] ∧ H' = x.s :: H) := by
  refine SCalls.of_walk (n := 58) Tryz.func90 rfl rfl rfl fun cs => ?_
  refine At.seq ?_
  refine At.region ?_
  refine AtL.assign (.inl rfl) rfl rfl ?_
  refine AtL.alloc tf_zero133 (cs := #[.int .i64 0, .int .i64 0]) rfl (.inl rfl) rfl ?_
  intro b1
  refine AtL.done ?_
  refine At.seq ?_
  refine At.region ?_
  refine AtL.call tf_body130 (.inl rfl) rfl rfl numbers_ok ?_
  rintro _ _ ⟨rfl, rfl⟩
  refine AtL.allocArr tyB (l := List.replicate 256 (0 : UInt8)) tf_zero166 tf_zarr166 (by simp) (.inl rfl) rfl ?_
  intro b2 s3 o4
  rw [List.length_replicate] at o4
  refine AtL.storeArr (T := tyB) (l' := fillF 64) 0 tf_sz166 rfl o4 (by simp [fillF_len]) rfl (by simp [Ty.cells_len, tyB, fillF_len]) (.inl rfl) rfl rfl ?_
  intro s5 o6
  refine AtL.done ?_
  refine At.seq ?_
  refine At.region ?_
  refine AtL.assign (.inl rfl) rfl rfl ?_
  refine AtL.done ?_
  refine At.seq ?_
  refine At.region ?_
  refine AtL.alloc tf_zero117 (cs := #[.int .i64 0, .int .i64 0]) rfl (.inl rfl) rfl ?_
  intro b7
  refine AtL.done ?_
  refine At.seq ?_
  refine At.seq ?_
  refine At.region ?_
  refine AtL.move (.inl rfl) rfl rfl ?_
  refine AtL.lenS (l := s) Tryz.underlying9 (.inl rfl) rfl rfl ?_
  refine AtL.move (.inl rfl) rfl rfl ?_
  refine AtL.done ?_
  refine At.block ?_
  refine At.nil ?_
  refine At.loop3 (fun (k : Nat) (p : List Bool) (x : Sl tyB 5) => [(0, str s), (3, .pointer (some ⟨b1, 0, none⟩)), (4, .pointer (some ⟨b2, 0, none⟩)), (5, .slice x.A x.l.length x.C), (6, .pointer (some ⟨b7, 0, none⟩)), (13, .int .i64 (s.length : Int)), (14, .int .i64 (k : Int))]) (fun (k : Nat) (p : List Bool) (x : Sl tyB 5) => x.s :: [(b7, .cells #[.int .i64 (bv p : Int), .int .i64 (p.length : Int)] 117 (0, 0))] :: s5 :: [(b1, .cells #[.int .i64 0, .int .i64 0] 133 (0, 0))] :: H) (fun (k : Nat) (p : List Bool) (x : Sl tyB 5) => k ≤ s.length ∧ (s.take k).all (fun c => decide (num64 c < 64)) = true ∧ p.length < 8 ∧ bits8 x.l ++ p = bitsS (s.take k) ∧ x.l.length ≤ k) (fun (k : Nat) (p : List Bool) (x : Sl tyB 5) => s.length - k) 0 [] Sl.nil (⟨Nat.zero_le _, rfl, by decide, rfl, Nat.zero_le _⟩) ⟨rfl, rfl, rfl, rfl, rfl, rfl, rfl, trivial⟩ rfl ?_
  rintro k p x ⟨hk, hall, hpl, hbits, hxk⟩ ihL1
  have hcap := Own.cap_le x.own
  refine At.seq ?_
  refine At.region ?_
  refine AtL.lss (.inl rfl) rfl rfl rfl ?_
  refine AtL.done ?_
  refine At.seq ?_
  refine At.cond rfl ?_ ?_
  · intro hc1
    have hc1 : (k : Int) < (s.length : Int) := of_decide_eq_true hc1
    refine At.skip ?_
    refine At.seq ?_
    refine At.block ?_
    refine At.seq ?_
    refine At.region ?_
    refine AtL.move (.inl rfl) rfl rfl ?_
    refine AtL.assign (.inl rfl) rfl rfl ?_
    refine AtL.done ?_
    refine At.seq ?_
    refine At.region ?_
    refine AtL.move (.inl rfl) rfl rfl ?_
    refine AtL.move (.inl rfl) rfl rfl ?_
    refine AtL.indexS (l := s) k rfl (by omega) Tryz.underlying9 (.inl rfl) rfl rfl rfl ?_
    refine AtL.indexArr ((s.getD k 0).toNat) Tryz.underlying166 tf_sz5 (.inl rfl) rfl rfl rfl rfl (UInt8.toNat_lt _) ?_
    refine AtL.load (v := .int .u8 (((fillF 64).getD ((s.getD k 0).toNat) 0).toNat : Int)) tf_flat5 (.inl rfl) rfl rfl (Rd.cell0 (o6.rd (i := 2) rfl) (getD_some 0 (by rw [fillF_len]; exact (UInt8.toNat_lt _))) rfl) ?_
    refine AtL.assign (.inl rfl) rfl rfl ?_
    refine AtL.done ?_
    refine At.seq ?_
    refine At.seq ?_
    refine At.region ?_
    refine AtL.move (.inl rfl) rfl rfl ?_
    refine AtL.eqi (.inl rfl) rfl rfl rfl ?_
    refine AtL.done ?_
    refine At.cond rfl ?_ ?_
    · intro hc2
      have hc2 : (((fillF 64).getD ((s.getD k 0).toNat) 0).toNat : Int) = 255 := of_decide_eq_true hc2
      have hg : ((fillF 64).getD (s.getD k 0).toNat 0) = 255 := u8_same (d := 255) (by rw [hc2]; rfl)
      rw [fillF_get, numB_no] at hg
      have hd := decB_bad (k := k) (by omega) hg
      refine At.seq ?_
      refine At.region ?_
      refine AtL.move (.inl rfl) rfl rfl ?_
      refine AtL.build (cs := [.int .i64 4, .int .i64 (k : Int)]) tf_lay133 (.inl rfl) rfl rfl rfl ?_
      refine AtL.assign (.inl rfl) rfl rfl ?_
      refine AtL.store (H' := x.s :: [(b7, .cells #[.int .i64 (bv p : Int), .int .i64 (p.length : Int)] 117 (0, 0))] :: s5 :: [(b1, .cells #[.int .i64 4, .int .i64 (k : Int)] 133 (0, 0))] :: H) 3 0 tf_sz133 (.inl rfl) rfl rfl rfl rfl rfl rfl rfl rfl rfl ?_
      refine AtL.done ?_
      refine At.nil ?_
      have hd2 : decB s = none := hd
      exact At.retMP (vs := [.slice none 0 0, .agg #[.int .i64 4, .int .i64 (k : Int)]]) (H2 := [] :: H) [0] 5 rfl rfl Tryz.func90 rfl ⟨rfl, ⟨_, rfl, LoadsTo.agg (cs := [.int .i64 4, .int .i64 (k : Int)]) tf_agg133 rfl (cellsOwn 4 0 0 rfl rfl rfl)⟩, trivial⟩ (⟨Sl.nil, _, by rw [hd2]; rfl, by rw [hd2]; rfl, rfl⟩)
    · intro hc2
      have hc2 : ¬ ((((fillF 64).getD ((s.getD k 0).toNat) 0).toNat : Int) = 255) := of_decide_eq_false hc2
      have hcn : num64 (s.getD k 0) < 64 := by rcases Nat.lt_or_ge (num64 (s.getD k 0)) 64 with h1 | h1; exact h1; exact absurd (by rw [fillF_get, (numB_no _).2 h1]; rfl) hc2
      have hql : (p ++ (b6 (num64 (s.getD k 0)))).length = p.length + 6 := by rw [List.length_append, b6_len]
      refine At.skip ?_
      refine At.seq ?_
      refine At.region ?_
      refine AtL.move (.inl rfl) rfl rfl ?_
      have hB8 := u8_le (((fillF 64).getD ((s.getD k 0).toNat) 0))
      refine AtL.convInt (z := (((fillF 64).getD ((s.getD k 0).toNat) 0).toNat : Int)) Tryz.underlying5 Tryz.underlying3 (.inl rfl) rfl rfl (u8_i64 _) ?_
      refine AtL.pick (H' := [(b7, .cells #[.int .i64 (bv p : Int), .int .i64 (p.length : Int)] 117 (0, 0))] :: x.s :: s5 :: [(b1, .cells #[.int .i64 0, .int .i64 0] 133 (0, 0))] :: H) [1, 0, 2, 3] 4 rfl rfl ?_
      refine AtL.call tf_body69 (.inl rfl) rfl rfl (put_ok (p := p) (q := (b6 (num64 (s.getD k 0)))) (by rw [fillF_get, numB_yes hcn, bv_b6 hcn]) rfl (by omega) (by first | decide | (rw [b6_len]; decide) | (rw [b8_len]; decide) | (rw [List.length_replicate]; omega))) ?_
      rintro _ _ ⟨rfl, rfl⟩
      refine AtL.done ?_
      refine At.seq ?_
      refine At.region ?_
      refine AtL.fieldAddrB tf_fo117_1 (.inl rfl) rfl rfl rfl ?_
      refine AtL.load tf_flat3 (.inl rfl) rfl rfl (Cell.own 0 0 rfl rfl rfl) ?_
      refine AtL.geq (.inl rfl) rfl rfl rfl ?_
      refine AtL.done ?_
      refine At.cond rfl ?_ ?_
      · intro hc3
        have hc3 : 8 ≤ ((p ++ (b6 (num64 (s.getD k 0)))).length : Int) := of_decide_eq_true hc3
        refine At.region ?_
        refine AtL.move (.inl rfl) rfl rfl ?_
        refine AtL.call tf_body71 (.inl rfl) rfl rfl (get_ok (p := (p ++ (b6 (num64 (s.getD k 0))))) 8 rfl (by omega) (by omega)) ?_
        rintro _ _ ⟨rfl, rfl⟩
        refine AtL.convInt (z := ((UInt8.ofNat (bv ((p ++ (b6 (num64 (s.getD k 0)))).take 8))).toNat : Int)) Tryz.underlying3 Tryz.underlying5 (.inl rfl) rfl rfl (u8_nat _) ?_
        refine AtL.buildSlice (cs := [.int .u8 ((UInt8.ofNat (bv ((p ++ (b6 (num64 (s.getD k 0)))).take 8))).toNat : Int)]) Tryz.underlying22 tf_zero5 tf_sz5 rfl rfl (.inl rfl) rfl rfl rfl ?_
        intro b9
        refine AtL.own1 tyB (l := ([(UInt8.ofNat (bv ((p ++ (b6 (num64 (s.getD k 0)))).take 8)))] : List UInt8)) rfl rfl (by first | decide | simp) ?_
        intro s10 o11
        refine AtL.append (l := x.l) (news := [(UInt8.ofNat (bv ((p ++ (b6 (num64 (s.getD k 0)))).take 8)))]) 2 tf_el22 rfl x.own (o11.rd (i := 0) rfl) (by first | omega | (simp only [List.length_append, List.length_cons, List.length_nil]; omega) | (simp; done) | (simp; omega)) (.inl rfl) rfl rfl rfl ?_
        intro A12 C13 s14 o15
        refine AtL.assign (.inl rfl) rfl rfl ?_
        refine AtL.done ?_
        refine At.inBlock ?_
        refine At.region ?_
        refine AtL.add (z := (k : Int) + 1) (.inl rfl) rfl rfl rfl (w64 (by omega) (by omega)) ?_
        refine AtL.move (.inl rfl) rfl rfl ?_
        refine AtL.done ?_
        refine At.pick (H' := s14 :: [(b7, .cells #[.int .i64 (bv ((p ++ (b6 (num64 (s.getD k 0)))).drop 8) : Int), .int .i64 (((p ++ (b6 (num64 (s.getD k 0)))).drop 8).length : Int)] 117 (0, 0))] :: s5 :: [(b1, .cells #[.int .i64 0, .int .i64 0] 133 (0, 0))] :: H) [2, 1, 3, 4] 5 rfl rfl ?_
        refine ihL1 (k + 1) ((p ++ (b6 (num64 (s.getD k 0)))).drop 8) (⟨A12, C13, x.l ++ [(UInt8.ofNat (bv ((p ++ (b6 (num64 (s.getD k 0)))).take 8)))], s14, o15⟩) (⟨by omega, take_all (by omega) hall hcn, by have := hpl; first | (rw [List.length_drop]; omega) | omega, dec_push (by omega) hbits (by omega), by first | omega | (dsimp only; rw [List.length_append]; simp only [List.length_cons, List.length_nil]; omega)⟩) (by omega) _ ?_
        exact ⟨rfl, rfl, rfl, (by first | rfl | exact slLen (by simp []) | exact intEq (by omega) | exact intEq (by simp []) | exact slLen (by simp []; omega)), rfl, rfl, (by first | rfl | exact slLen (by simp []) | exact intEq (by omega) | exact intEq (by simp []) | exact slLen (by simp []; omega)), trivial⟩
      · intro hc3
        have hc3 : ¬ (8 ≤ ((p ++ (b6 (num64 (s.getD k 0)))).length : Int)) := of_decide_eq_false hc3
        refine At.skip ?_
        refine At.inBlock ?_
        refine At.region ?_
        refine AtL.add (z := (k : Int) + 1) (.inl rfl) rfl rfl rfl (w64 (by omega) (by omega)) ?_
        refine AtL.move (.inl rfl) rfl rfl ?_
        refine AtL.done ?_
        refine At.pick (H' := x.s :: [(b7, .cells #[.int .i64 (bv (p ++ (b6 (num64 (s.getD k 0)))) : Int), .int .i64 ((p ++ (b6 (num64 (s.getD k 0)))).length : Int)] 117 (0, 0))] :: s5 :: [(b1, .cells #[.int .i64 0, .int .i64 0] 133 (0, 0))] :: H) [1, 0, 2, 3] 4 rfl rfl ?_
        refine ihL1 (k + 1) (p ++ (b6 (num64 (s.getD k 0)))) x (⟨by omega, take_all (by omega) hall hcn, by have := hpl; first | (rw [List.length_drop]; omega) | omega, dec_keep (by omega) hbits, by first | omega | (dsimp only; rw [List.length_append]; simp only [List.length_cons, List.length_nil]; omega)⟩) (by omega) _ ?_
        exact ⟨rfl, rfl, rfl, (by first | rfl | exact slLen (by simp []) | exact intEq (by omega) | exact intEq (by simp []) | exact slLen (by simp []; omega)), rfl, rfl, (by first | rfl | exact slLen (by simp []) | exact intEq (by omega) | exact intEq (by simp []) | exact slLen (by simp []; omega)), trivial⟩
  · intro hc1
    have hc1 : ¬ ((k : Int) < (s.length : Int)) := of_decide_eq_false hc1
    rw [List.take_of_length_le (by omega)] at hall hbits
    have hd := decB_of hall hpl hbits
    have hz := bv_zero p
    refine At.exit rfl ?_
    refine At.seq ?_
    refine At.seq ?_
    refine At.region ?_
    refine AtL.move (.inl rfl) rfl rfl ?_
    refine AtL.lenS (l := s) Tryz.underlying9 (.inl rfl) rfl rfl ?_
    refine AtL.call tf_body131 (.inl rfl) rfl rfl (size_ok s.length (by omega)) ?_
    rintro _ _ ⟨z16, rfl, rfl⟩
    refine AtL.move (.inl rfl) rfl rfl ?_
    refine AtL.extract (.inl rfl) rfl rfl rfl ?_
    refine AtL.extract (.inl rfl) rfl rfl rfl ?_
    refine AtL.assign (.inl rfl) rfl rfl ?_
    refine AtL.assign (.inl rfl) rfl rfl ?_
    refine AtL.done ?_
    refine At.seq ?_
    refine At.region ?_
    refine AtL.move (.inl rfl) rfl rfl ?_
    refine AtL.not (.inl rfl) rfl rfl ?_
    refine AtL.done ?_
    refine At.cond rfl ?_ ?_
    · intro hc4
      have hc4 : ¬ (s.length % 4 ≠ 1) := of_decide_eq_false (bnot_true hc4)
      refine At.seq ?_
      refine At.region ?_
      refine AtL.move (.inl rfl) rfl rfl ?_
      refine AtL.lenS (l := s) Tryz.underlying9 (.inl rfl) rfl rfl ?_
      refine AtL.build (cs := [.int .i64 4, .int .i64 (s.length : Int)]) tf_lay133 (.inl rfl) rfl rfl rfl ?_
      refine AtL.assign (.inl rfl) rfl rfl ?_
      refine AtL.store (H' := x.s :: [(b7, .cells #[.int .i64 (bv p : Int), .int .i64 (p.length : Int)] 117 (0, 0))] :: s5 :: [(b1, .cells #[.int .i64 4, .int .i64 (s.length : Int)] 133 (0, 0))] :: H) 3 0 tf_sz133 (.inl rfl) rfl rfl rfl rfl rfl rfl rfl rfl rfl ?_
      refine AtL.done ?_
      refine At.nil ?_
      have hd2 : decB s = none := by rw [hd, if_pos (.inl (by omega))]
      exact At.retMP (vs := [.slice none 0 0, .agg #[.int .i64 4, .int .i64 (s.length : Int)]]) (H2 := [] :: H) [0] 5 rfl rfl Tryz.func90 rfl ⟨rfl, ⟨_, rfl, LoadsTo.agg (cs := [.int .i64 4, .int .i64 (s.length : Int)]) tf_agg133 rfl (cellsOwn 4 0 0 rfl rfl rfl)⟩, trivial⟩ (⟨Sl.nil, _, by rw [hd2]; rfl, by rw [hd2]; rfl, rfl⟩)
    · intro hc4
      have hc4 : s.length % 4 ≠ 1 := of_decide_eq_true (bnot_false hc4)
      refine At.skip ?_
      refine At.seq ?_
      refine At.seq ?_
      refine At.region ?_
      refine AtL.fieldAddrB tf_fo117_0 (.inl rfl) rfl rfl rfl ?_
      refine AtL.load tf_flat3 (.inl rfl) rfl rfl (Cell.own 1 0 rfl rfl rfl) ?_
      refine AtL.nei (.inl rfl) rfl rfl rfl ?_
      refine AtL.done ?_
      refine At.cond rfl ?_ ?_
      · intro hc5
        have hc5 : ¬ ((bv p : Int) = 0) := of_decide_eq_false (bnot_true hc5)
        refine At.seq ?_
        refine At.region ?_
        refine AtL.move (.inl rfl) rfl rfl ?_
        refine AtL.lenS (l := s) Tryz.underlying9 (.inl rfl) rfl rfl ?_
        refine AtL.sub (z := (s.length : Int) - 1) (.inl rfl) rfl rfl rfl (w64 (by omega) (by omega)) ?_
        refine AtL.build (cs := [.int .i64 4, .int .i64 ((s.length : Int) - 1)]) tf_lay133 (.inl rfl) rfl rfl rfl ?_
        refine AtL.assign (.inl rfl) rfl rfl ?_
        refine AtL.store (H' := x.s :: [(b7, .cells #[.int .i64 (bv p : Int), .int .i64 (p.length : Int)] 117 (0, 0))] :: s5 :: [(b1, .cells #[.int .i64 4, .int .i64 ((s.length : Int) - 1)] 133 (0, 0))] :: H) 3 0 tf_sz133 (.inl rfl) rfl rfl rfl rfl rfl rfl rfl rfl rfl ?_
        refine AtL.done ?_
        refine At.nil ?_
        have hd2 : decB s = none := by rw [hd, if_pos (.inr (by rcases Bool.eq_false_or_eq_true (p.any id) with h1 | h1; exact h1; exact absurd (by rw [hz.2 h1]; rfl) hc5))]
        exact At.retMP (vs := [.slice none 0 0, .agg #[.int .i64 4, .int .i64 ((s.length : Int) - 1)]]) (H2 := [] :: H) [0] 5 rfl rfl Tryz.func90 rfl ⟨rfl, ⟨_, rfl, LoadsTo.agg (cs := [.int .i64 4, .int .i64 ((s.length : Int) - 1)]) tf_agg133 rfl (cellsOwn 4 0 0 rfl rfl rfl)⟩, trivial⟩ (⟨Sl.nil, _, by rw [hd2]; rfl, by rw [hd2]; rfl, rfl⟩)
      · intro hc5
        have hc5 : (bv p : Int) = 0 := of_decide_eq_true (bnot_false hc5)
        refine At.skip ?_
        refine At.seq ?_
        refine At.region ?_
        refine AtL.move (.inl rfl) rfl rfl ?_
        refine AtL.build (cs := [.int .i64 0, .int .i64 0]) tf_lay133 (.inl rfl) rfl rfl rfl ?_
        refine AtL.assign (.inl rfl) rfl rfl ?_
        refine AtL.store (H' := x.s :: [(b7, .cells #[.int .i64 (bv p : Int), .int .i64 (p.length : Int)] 117 (0, 0))] :: s5 :: [(b1, .cells #[.int .i64 0, .int .i64 0] 133 (0, 0))] :: H) 3 0 tf_sz133 (.inl rfl) rfl rfl rfl rfl rfl rfl rfl rfl rfl ?_
        refine AtL.done ?_
        have hd2 : decB s = some x.l := by rw [hd, if_neg (by rintro (h1 | h1); omega; rw [hz.1 (by omega)] at h1; cases h1)]
        exact At.retMP (vs := [.slice x.A x.l.length x.C, .agg #[.int .i64 0, .int .i64 0]]) (H2 := x.s :: H) [0] 4 rfl rfl Tryz.func90 rfl ⟨rfl, ⟨_, rfl, LoadsTo.agg (cs := [.int .i64 0, .int .i64 0]) tf_agg133 rfl (cellsOwn 3 0 0 rfl rfl rfl)⟩, trivial⟩ (⟨x, _, by rw [hd2]; rfl, by rw [hd2]; rfl, rfl⟩)

end Go.Proofs.YtlkdmbpbjhjkfaaGreatDoor
