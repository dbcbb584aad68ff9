/- Bytes as letters: Encode. -/
import Derived.Test.YtlkdmbpbjhjkfaaGreatDoorE2
import Derived.Test.YtlkdmbpbjhjkfaaGreatDoorTB3
namespace Go.Proofs.YtlkdmbpbjhjkfaaGreatDoor
set_option linter.unusedVariables false
set_option linter.unusedSimpArgs false
set_option maxRecDepth 100000

def okB (s : List UInt8) : Bool := s.all fun c => decide (num64 c < 64)
theorem bitsS_inj : ∀ {a b : List UInt8}, okB a = true → okB b = true → bitsS a = bitsS b → a = b
  | [], [], _, _, _ => rfl
  | [], y :: b, _, _, h => by have := congrArg List.length h; simp only [bitsS_len, List.length_cons, List.length_nil] at this; omega
  | x :: a, [], _, _, h => by have := congrArg List.length h; simp only [bitsS_len, List.length_cons, List.length_nil] at this; omega
  | x :: a, y :: b, ha, hb, h => by
    simp only [okB, List.all_cons, Bool.and_eq_true, decide_eq_true_eq] at ha hb
    have h2 : b6 (num64 x) ++ bitsS a = b6 (num64 y) ++ bitsS b := h
    obtain ⟨h3, h4⟩ := List.append_inj h2 rfl
    have h5 : num64 x = num64 y := by rw [← bv_b6 ha.1, ← bv_b6 hb.1, h3]
    rw [bitsS_inj ha.2 hb.2 h4, ← num_let ha.1, h5, num_let hb.1]
theorem bits6_of (B : List Bool) (n : Nat) (h : 6 * n ≤ B.length) : bitsS ((List.range n).map fun j => letB.getD (bv ((B.drop (6 * j)).take 6)) 0) = B.take (6 * n) ∧ okB ((List.range n).map fun j => letB.getD (bv ((B.drop (6 * j)).take 6)) 0) = true := by
  induction n with
  | zero => exact ⟨rfl, rfl⟩
  | succ n ih =>
    obtain ⟨i1, i2⟩ := ih (by omega)
    have e : ((B.drop (6 * n)).take 6).length = 6 := by rw [List.length_take, List.length_drop]; omega
    have e2 := bv_64 e
    constructor
    · rw [List.range_succ, List.map_append, bitsS_app, i1]
      simp only [List.map_cons, List.map_nil, bitsS, List.flatMap_cons, List.flatMap_nil, List.append_nil]
      rw [let_num e2, b6_bv e, show 6 * (n + 1) = 6 * n + 6 by omega, List.take_add]
    · rw [List.range_succ, List.map_append, okB, List.all_append]
      have i3 := i2
      rw [okB] at i3
      rw [i3]
      simp only [List.map_cons, List.map_nil, List.all_cons, List.all_nil]
      rw [let_num e2, decide_eq_true e2]; rfl
theorem enc_bits (b : List UInt8) : ∃ m, m < 6 ∧ bitsS (encB b) = bits8 b ++ List.replicate m false ∧ okB (encB b) = true := by
  obtain ⟨h1, h2⟩ := bits6_of (bits8 b ++ List.replicate 6 false) ((8 * b.length + 5) / 6) (by rw [List.length_append, bits8_len, List.length_replicate]; omega)
  refine ⟨6 * ((8 * b.length + 5) / 6) - 8 * b.length, by omega, ?_, h2⟩
  rw [encB, h1, List.take_append, bits8_len, List.take_of_length_le (by rw [bits8_len]; omega), List.take_replicate]
  congr 2; omega
theorem enc_uniq {b out : List UInt8} {m : Nat} (hm : m < 6) (ho : okB out = true) (h : bitsS out = bits8 b ++ List.replicate m false) : out = encB b := by
  obtain ⟨k, hk, h1, h2⟩ := enc_bits b
  have l1 := congrArg List.length h
  have l2 := congrArg List.length h1
  rw [List.length_append, bits8_len, List.length_replicate, bitsS_len] at l1 l2
  have : m = k := by omega
  subst this
  exact bitsS_inj ho h2 (h.trans h1.symm)
theorem dec_enc (b : List UInt8) : decB (encB b) = some b := by
  obtain ⟨m, hm, h1, h2⟩ := enc_bits b
  have l2 := congrArg List.length h1
  rw [List.length_append, bits8_len, List.length_replicate, bitsS_len] at l2
  rw [decB_of h2 (p := List.replicate m false) (by rw [List.length_replicate]; omega) h1.symm, if_neg]
  rintro (h | h)
  · omega
  · rw [List.any_eq_true] at h
    obtain ⟨x, hx, hx2⟩ := h
    rw [(List.mem_replicate.1 hx).2] at hx2; cases hx2
theorem ok_push {x : List UInt8} {q : List Bool} (hx : okB x = true) (hq : 6 ≤ q.length) : okB (x ++ [letB.getD (bv (q.take 6)) 0]) = true ∧ bitsS (x ++ [letB.getD (bv (q.take 6)) 0]) ++ q.drop 6 = bitsS x ++ q := by
  have e : (q.take 6).length = 6 := by rw [List.length_take]; omega
  have e2 := bv_64 e
  constructor
  · rw [okB, List.all_append]
    have h3 := hx
    rw [okB] at h3
    rw [h3, List.all_cons, List.all_nil, let_num e2, decide_eq_true e2]; rfl
  · rw [bitsS_app]
    simp only [bitsS, List.flatMap_cons, List.flatMap_nil, List.append_nil]
    rw [let_num e2, b6_bv e, List.append_assoc, List.take_append_drop]
theorem bits8_take {b : List UInt8} {k : Nat} (h : k < b.length) : bits8 (b.take (k + 1)) = bits8 (b.take k) ++ b8 (b.getD k 0) := by
  rw [List.take_succ_eq_append_getElem h, bits8_app]
  have : b[k] = b.getD k 0 := by simp [List.getD, h]
  rw [this]; simp [bits8]
theorem zeros_bv (n : Nat) : bv (List.replicate n false) = 0 := (bv_zero _).2 (by rw [List.any_eq_false]; intro x hx; rw [(List.mem_replicate.1 hx).2]; decide)

set_option maxHeartbeats 400000 in
theorem bwbyte_ok {w0 : World} {base : Nat} {H : List Seg} {b : Nat} {p : Value} (hp : bown b p) {x : Sl tyB 5} {c : UInt8} (hl : x.l.length + 1 ≤ 140737488355328) :
    SCalls Tryz.prog 70 [.pointer (some ⟨b, 0, none⟩), .int .u8 (c.toNat : Int)] w0 base (x.s :: [(b, .cells #[p, .slice x.A x.l.length x.C] 108 (0, 0))] :: H) (fun u H' => ∃ y : Sl tyB 5, y.l = x.l ++ [c] ∧ u = .nilIface ∧ H' = y.s :: [(b, .cells #[.pointer (some ⟨b, 0, none⟩), .slice y.A y.l.length y.C] 108 (0, 0))] :: H) := by
  refine SCalls.of_walk (n := 17) Tryz.func70 rfl rfl rfl fun cs => ?_
  refine At.seq ?_
  refine At.region ?_
  refine AtL.assign (.inl rfl) rfl rfl ?_
  refine AtL.done ?_
  refine At.seq ?_
  refine At.region ?_
  refine AtL.move (.inl rfl) rfl rfl ?_
  refine AtL.pick (H' := [(b, .cells #[p, .slice x.A x.l.length x.C] 108 (0, 0))] :: x.s :: H) [1, 0] 2 rfl rfl ?_
  refine AtL.call tf_body108 (.inl rfl) rfl rfl (bchk_ok hp) ?_
  rintro _ _ ⟨rfl, rfl⟩
  refine AtL.done ?_
  refine At.seq ?_
  refine At.region ?_
  refine AtL.move (.inl rfl) rfl rfl ?_
  refine AtL.move (.inl rfl) rfl rfl ?_
  refine AtL.nilCheck (.inl rfl) rfl rfl ?_
  refine AtL.fieldAddrB tf_fo108_1 (.inl rfl) rfl rfl rfl ?_
  refine AtL.load tf_flat22 (.inl rfl) rfl rfl (Cell.own 0 0 rfl rfl rfl) ?_
  refine AtL.move (.inl rfl) rfl rfl ?_
  refine AtL.buildSlice (cs := [.int .u8 (c.toNat : Int)]) Tryz.underlying22 tf_zero5 tf_sz5 rfl rfl (.inl rfl) rfl rfl rfl ?_
  intro b1
  refine AtL.own1 tyB (l := ([c] : List UInt8)) rfl rfl (by first | decide | simp) ?_
  intro s2 o3
  refine AtL.append (l := x.l) (news := [c]) 2 tf_el22 rfl x.own (o3.rd (i := 0) rfl) (by simp only [List.length_cons, List.length_nil]; omega) (.inl rfl) rfl rfl rfl ?_
  intro A4 C5 s6 o7
  refine AtL.nilCheck (.inl rfl) rfl rfl ?_
  refine AtL.fieldAddrB tf_fo108_1 (.inl rfl) rfl rfl rfl ?_
  refine AtL.store (H' := s2 :: [(b, .cells #[.pointer (some ⟨b, 0, none⟩), .slice A4 (x.l ++ [c]).length C5] 108 (0, 0))] :: s6 :: H) 1 0 tf_sz22 (.inl rfl) rfl rfl rfl rfl rfl rfl rfl rfl rfl ?_
  refine AtL.done ?_
  refine At.seq ?_
  refine At.region ?_
  refine AtL.assign (.inl rfl) rfl rfl ?_
  refine AtL.done ?_
  refine At.pick (H' := s6 :: [(b, .cells #[.pointer (some ⟨b, 0, none⟩), .slice A4 (x.l ++ [c]).length C5] 108 (0, 0))] :: H) [2, 1] 3 rfl rfl ?_
  exact At.ret Tryz.func70 rfl rfl (⟨⟨A4, C5, x.l ++ [c], s6, o7⟩, rfl, rfl, rfl⟩)

set_option maxHeartbeats 400000 in
theorem b64enc_ok {w0 : World} {base : Nat} {H : List Seg} {A : Option Addr} {C : Nat} {b : List UInt8} (h : Rd tyB w0 base H A C b) (h1 : 1 ≤ b.length) (hbl : b.length ≤ 4294967280) :
    SCalls Tryz.prog 45 [.slice A b.length C] w0 base (H) (fun v H' => v = str (encB b) ∧ H' = H) := by
  have hle0 := h.le
  have hcap0 := h.cap
  refine SCalls.of_walk (n := 34) Tryz.func45 rfl rfl rfl fun cs => ?_
  refine At.seq ?_
  refine At.region ?_
  refine AtL.assign (.inl rfl) rfl rfl ?_
  refine AtL.done ?_
  refine At.seq ?_
  refine At.region ?_
  refine AtL.alloc tf_zero108 (cs := #[.pointer none, .slice none 0 0]) rfl (.inl rfl) rfl ?_
  intro b1
  refine AtL.done ?_
  refine At.seq ?_
  refine At.region ?_
  refine AtL.alloc tf_zero117 (cs := #[.int .i64 0, .int .i64 0]) rfl (.inl rfl) rfl ?_
  intro b2
  refine AtL.done ?_
  refine At.seq ?_
  refine At.seq ?_
  refine At.region ?_
  refine AtL.move (.inl rfl) rfl rfl ?_
  refine AtL.lenL Tryz.underlying22 (.inl rfl) rfl rfl ?_
  refine AtL.move (.inl rfl) rfl rfl ?_
  refine AtL.done ?_
  refine At.block ?_
  refine At.nil ?_
  refine At.pick (H' := [] :: [(b1, .cells #[.pointer none, .slice none 0 0] 108 (0, 0))] :: [(b2, .cells #[.int .i64 0, .int .i64 0] 117 (0, 0))] :: H) [0, 2, 1] 3 rfl rfl ?_
  refine At.loop4 (fun (k : Nat) (p : List Bool) (y : Sl tyB 5) (q : Value) => [(3, .pointer (some ⟨b1, 0, none⟩)), (4, .pointer (some ⟨b2, 0, none⟩)), (7, .slice A b.length C), (8, .int .i64 (b.length : Int)), (9, .int .i64 (k : Int))]) (fun (k : Nat) (p : List Bool) (y : Sl tyB 5) (q : Value) => y.s :: [(b1, .cells #[q, .slice y.A y.l.length y.C] 108 (0, 0))] :: [(b2, .cells #[.int .i64 (bv p : Int), .int .i64 (p.length : Int)] 117 (0, 0))] :: H) (fun (k : Nat) (p : List Bool) (y : Sl tyB 5) (q : Value) => k ≤ b.length ∧ p.length < 6 ∧ okB y.l = true ∧ bitsS y.l ++ p = bits8 (b.take k) ∧ bown b1 q) (fun (k : Nat) (p : List Bool) (y : Sl tyB 5) (q : Value) => b.length - k) 0 [] Sl.nil (.pointer none) (⟨Nat.zero_le _, by decide, rfl, rfl, .inl rfl⟩) ⟨rfl, rfl, rfl, rfl, rfl, trivial⟩ rfl ?_
  rintro k p y q ⟨hk, hpl, hok, hb, hq⟩ ihL1
  have hlen := congrArg List.length hb; rw [List.length_append, bitsS_len, bits8_len, List.length_take] at hlen
  refine At.seq ?_
  refine At.region ?_
  refine AtL.lss (.inl rfl) rfl rfl rfl ?_
  refine AtL.done ?_
  refine At.seq ?_
  refine At.cond rfl ?_ ?_
  · intro hc1
    have hc1 : (k : Int) < (b.length : Int) := of_decide_eq_true hc1
    refine At.skip ?_
    refine At.seq ?_
    refine At.block ?_
    refine At.seq ?_
    refine At.region ?_
    refine AtL.indexL k (Rd.skip 3 h) Tryz.underlying22 tf_sz5 (.inl rfl) rfl rfl rfl rfl (by omega) ?_
    refine AtL.load (v := .int .u8 ((b.getD k 0).toNat : Int)) tf_flat5 (.inl rfl) rfl rfl (Rd.cell0 (Rd.skip 3 h) (getD_some 0 (by omega)) rfl) ?_
    refine AtL.assign (.inl rfl) rfl rfl ?_
    refine AtL.done ?_
    refine At.seq ?_
    refine At.region ?_
    refine AtL.move (.inl rfl) rfl rfl ?_
    have hB3 := u8_le ((b.getD k 0))
    refine AtL.convInt (z := ((b.getD k 0).toNat : Int)) Tryz.underlying5 Tryz.underlying3 (.inl rfl) rfl rfl (u8_i64 _) ?_
    refine AtL.pick (H' := [(b2, .cells #[.int .i64 (bv p : Int), .int .i64 (p.length : Int)] 117 (0, 0))] :: y.s :: [(b1, .cells #[q, .slice y.A y.l.length y.C] 108 (0, 0))] :: H) [2, 0, 1] 3 rfl rfl ?_
    refine AtL.call tf_body69 (.inl rfl) rfl rfl (put_ok (p := p) (q := (b8 (b.getD k 0))) (by rw [bv_b8]) rfl (by omega) (by first | decide | (rw [b6_len]; decide) | (rw [b8_len]; decide) | (rw [List.length_replicate]; omega))) ?_
    rintro _ _ ⟨rfl, rfl⟩
    refine AtL.done ?_
    refine At.block ?_
    refine At.pick (H' := y.s :: [(b1, .cells #[q, .slice y.A y.l.length y.C] 108 (0, 0))] :: [(b2, .cells #[.int .i64 (bv (p ++ (b8 (b.getD k 0))) : Int), .int .i64 ((p ++ (b8 (b.getD k 0))).length : Int)] 117 (0, 0))] :: H) [1, 2, 0] 3 rfl rfl ?_
    have hb8 : bitsS y.l ++ (p ++ (b8 (b.getD k 0))) = bits8 (b.take (k + 1)) := by rw [bits8_take (by omega), ← hb, List.append_assoc]
    have hpl8 : ((p ++ (b8 (b.getD k 0)))).length < 14 := by rw [List.length_append, b8_len]; omega
    refine At.loop3 (fun (p2 : List Bool) (y2 : Sl tyB 5) (q2 : Value) => [(3, .pointer (some ⟨b1, 0, none⟩)), (4, .pointer (some ⟨b2, 0, none⟩)), (7, .slice A b.length C), (8, .int .i64 (b.length : Int)), (9, .int .i64 (k : Int))]) (fun (p2 : List Bool) (y2 : Sl tyB 5) (q2 : Value) => y2.s :: [(b1, .cells #[q2, .slice y2.A y2.l.length y2.C] 108 (0, 0))] :: [(b2, .cells #[.int .i64 (bv p2 : Int), .int .i64 (p2.length : Int)] 117 (0, 0))] :: H) (fun (p2 : List Bool) (y2 : Sl tyB 5) (q2 : Value) => p2.length < 14 ∧ okB y2.l = true ∧ bitsS y2.l ++ p2 = bits8 (b.take (k + 1)) ∧ bown b1 q2) (fun (p2 : List Bool) (y2 : Sl tyB 5) (q2 : Value) => p2.length) (p ++ (b8 (b.getD k 0))) y q (⟨hpl8, hok, hb8, hq⟩) ⟨rfl, rfl, rfl, rfl, rfl, trivial⟩ rfl ?_
    rintro p2 y2 q2 ⟨hpl2, hok2, hb2, hq2⟩ ihL2
    have hlen2 := congrArg List.length hb2; rw [List.length_append, bitsS_len, bits8_len, List.length_take] at hlen2
    refine At.seq ?_
    refine At.seq ?_
    refine At.region ?_
    refine AtL.fieldAddrB tf_fo117_1 (.inl rfl) rfl rfl rfl ?_
    refine AtL.load tf_flat3 (.inl rfl) rfl rfl (Cell.own 2 0 rfl rfl rfl) ?_
    refine AtL.geq (.inl rfl) rfl rfl rfl ?_
    refine AtL.done ?_
    refine At.cond rfl ?_ ?_
    · intro hc2
      have hc2 : 6 ≤ (p2.length : Int) := of_decide_eq_true hc2
      refine At.skip ?_
      refine At.block ?_
      refine At.region ?_
      refine AtL.pick (H' := [(b2, .cells #[.int .i64 (bv p2 : Int), .int .i64 (p2.length : Int)] 117 (0, 0))] :: y2.s :: [(b1, .cells #[q2, .slice y2.A y2.l.length y2.C] 108 (0, 0))] :: H) [2, 0, 1] 3 rfl rfl ?_
      refine AtL.call tf_body71 (.inl rfl) rfl rfl (get_ok (p := p2) 6 rfl (by omega) (by omega)) ?_
      rintro _ _ ⟨rfl, rfl⟩
      refine AtL.indexS (l := letB) (bv (p2.take 6)) rfl (by rw [letB_len]; exact bv_64 (by rw [List.length_take]; omega)) Tryz.underlying9 (.inl rfl) rfl rfl rfl ?_
      refine AtL.pick (H' := y2.s :: [(b1, .cells #[q2, .slice y2.A y2.l.length y2.C] 108 (0, 0))] :: [(b2, .cells #[.int .i64 (bv (p2.drop 6) : Int), .int .i64 ((p2.drop 6).length : Int)] 117 (0, 0))] :: H) [1, 2, 0] 3 rfl rfl ?_
      refine AtL.call tf_body70 (.inl rfl) rfl rfl (bwbyte_ok (by first | exact hq2 | exact hq) (x := y2) (c := letB.getD (bv (p2.take 6)) 0) (by omega)) ?_
      rintro _ _ ⟨⟨A4, C5, l6, s7, o8⟩, hx9, rfl, rfl⟩
      obtain rfl : y2.l ++ [letB.getD (bv (p2.take 6)) 0] = l6 := hx9.symm
      refine AtL.done ?_
      refine At.inBlock ?_
      refine ihL2 (p2.drop 6) (⟨A4, C5, y2.l ++ [letB.getD (bv (p2.take 6)) 0], s7, o8⟩) (.pointer (some ⟨b1, 0, none⟩)) (⟨by rw [List.length_drop]; omega, (ok_push hok2 (by omega)).1, by dsimp only; rw [(ok_push hok2 (by omega)).2]; exact hb2, .inr rfl⟩) (by rw [List.length_drop]; omega) _ ?_
      exact ⟨rfl, rfl, rfl, rfl, rfl, trivial⟩
    · intro hc2
      have hc2 : ¬ (6 ≤ (p2.length : Int)) := of_decide_eq_false hc2
      refine At.exit rfl ?_
      refine At.inBlock ?_
      refine At.region ?_
      refine AtL.add (z := (k : Int) + 1) (.inl rfl) rfl rfl rfl (w64 (by omega) (by omega)) ?_
      refine AtL.move (.inl rfl) rfl rfl ?_
      refine AtL.done ?_
      refine ihL1 (k + 1) p2 y2 q2 (⟨by omega, by omega, hok2, hb2, hq2⟩) (by omega) _ ?_
      exact ⟨rfl, rfl, rfl, rfl, (by first | rfl | exact slLen (by simp []) | exact intEq (by omega) | exact intEq (by simp []) | exact slLen (by simp []; omega)), trivial⟩
  · intro hc1
    have hc1 : ¬ ((k : Int) < (b.length : Int)) := of_decide_eq_false hc1
    rw [List.take_of_length_le (by omega)] at hb
    refine At.exit rfl ?_
    refine At.seq ?_
    refine At.seq ?_
    refine At.region ?_
    refine AtL.fieldAddrB tf_fo117_1 (.inl rfl) rfl rfl rfl ?_
    refine AtL.load tf_flat3 (.inl rfl) rfl rfl (Cell.own 2 0 rfl rfl rfl) ?_
    refine AtL.gtr (.inl rfl) rfl rfl rfl ?_
    refine AtL.done ?_
    refine At.cond rfl ?_ ?_
    · intro hc3
      have hc3 : 0 < (p.length : Int) := of_decide_eq_true hc3
      have hql : (p ++ List.replicate (6 - p.length) false).length = 6 := by rw [List.length_append, List.length_replicate]; omega
      obtain ⟨hf1, hf2⟩ := ok_push (q := p ++ List.replicate (6 - p.length) false) hok (by omega)
      rw [List.drop_of_length_le (by omega), List.append_nil, ← List.append_assoc, hb] at hf2
      have hfin := enc_uniq (by omega) hf1 hf2
      refine At.seq ?_
      refine At.region ?_
      refine AtL.fieldAddrB tf_fo117_1 (.inl rfl) rfl rfl rfl ?_
      refine AtL.load tf_flat3 (.inl rfl) rfl rfl (Cell.own 2 0 rfl rfl rfl) ?_
      refine AtL.sub (z := 6 - (p.length : Int)) (.inl rfl) rfl rfl rfl (w64 (by omega) (by omega)) ?_
      refine AtL.pick (H' := [(b2, .cells #[.int .i64 (bv p : Int), .int .i64 (p.length : Int)] 117 (0, 0))] :: y.s :: [(b1, .cells #[q, .slice y.A y.l.length y.C] 108 (0, 0))] :: H) [2, 0, 1] 3 rfl rfl ?_
      refine AtL.call tf_body69 (.inl rfl) rfl rfl (put_ok (p := p) (q := (List.replicate (6 - p.length) false)) (by rw [zeros_bv]; rfl) (by rw [List.length_replicate]; omega) (by omega) (by first | decide | (rw [b6_len]; decide) | (rw [b8_len]; decide) | (rw [List.length_replicate]; omega))) ?_
      rintro _ _ ⟨rfl, rfl⟩
      refine AtL.done ?_
      refine At.region ?_
      refine AtL.call tf_body71 (.inl rfl) rfl rfl (get_ok (p := (p ++ (List.replicate (6 - p.length) false))) 6 rfl (by omega) (by omega)) ?_
      rintro _ _ ⟨rfl, rfl⟩
      refine AtL.indexS (l := letB) (bv ((p ++ (List.replicate (6 - p.length) false)).take 6)) rfl (by rw [letB_len]; exact bv_64 (by rw [List.length_take]; omega)) Tryz.underlying9 (.inl rfl) rfl rfl rfl ?_
      refine AtL.pick (H' := y.s :: [(b1, .cells #[q, .slice y.A y.l.length y.C] 108 (0, 0))] :: [(b2, .cells #[.int .i64 (bv ((p ++ (List.replicate (6 - p.length) false)).drop 6) : Int), .int .i64 (((p ++ (List.replicate (6 - p.length) false)).drop 6).length : Int)] 117 (0, 0))] :: H) [1, 2, 0] 3 rfl rfl ?_
      refine AtL.call tf_body70 (.inl rfl) rfl rfl (bwbyte_ok (by first | exact hq2 | exact hq) (x := y) (c := letB.getD (bv ((p ++ (List.replicate (6 - p.length) false)).take 6)) 0) (by omega)) ?_
      rintro _ _ ⟨⟨A10, C11, l12, s13, o14⟩, hx15, rfl, rfl⟩
      obtain rfl : y.l ++ [letB.getD (bv ((p ++ (List.replicate (6 - p.length) false)).take 6)) 0] = l12 := hx15.symm
      refine AtL.done ?_
      refine At.seq ?_
      refine At.region ?_
      refine AtL.call tf_body66 (.inl rfl) rfl rfl (bstr_ok (x := ⟨A10, C11, y.l ++ [letB.getD (bv ((p ++ (List.replicate (6 - p.length) false)).take 6)) 0], s13, o14⟩) (by first | exact hyn | simp)) ?_
      rintro _ _ ⟨s16, rfl, rfl⟩
      refine AtL.assign (.inl rfl) rfl rfl ?_
      refine AtL.done ?_
      refine At.pick (H' := H) [] 2 rfl rfl ?_
      exact At.ret Tryz.func45 rfl rfl (⟨congrArg str hfin, rfl⟩)
    · intro hc3
      have hc3 : ¬ (0 < (p.length : Int)) := of_decide_eq_false hc3
      have hp0 : p = [] := List.eq_nil_of_length_eq_zero (by omega)
      have hfin := enc_uniq (m := 0) (by omega) hok (by rw [← hb, hp0]; simp)
      have hyn : y.l ≠ [] := by intro h; rw [hp0, h] at hb; have := congrArg List.length hb; rw [bits8_len] at this; simp [bitsS] at this; omega
      refine At.skip ?_
      refine At.seq ?_
      refine At.region ?_
      refine AtL.call tf_body66 (.inl rfl) rfl rfl (bstr_ok (x := y) (by first | exact hyn | simp)) ?_
      rintro _ _ ⟨s17, rfl, rfl⟩
      refine AtL.assign (.inl rfl) rfl rfl ?_
      refine AtL.done ?_
      refine At.pick (H' := H) [] 2 rfl rfl ?_
      exact At.ret Tryz.func45 rfl rfl (⟨congrArg str hfin, rfl⟩)

end Go.Proofs.YtlkdmbpbjhjkfaaGreatDoor
