/- DohParts: plain law, Target, plain. -/
import Derived.Test.YtlkdmbpbjhjkfaaDoorE9
namespace Go.Proofs.YtlkdmbpbjhjkfaaDoor
set_option linter.unusedVariables false
set_option linter.unusedSimpArgs false
set_option maxRecDepth 100000

/-- P16.4: the target of a message. -/
def TPRE : List UInt8 := [47, 100, 110, 115, 45, 113, 117, 101, 114, 121, 63, 100, 110, 115, 61]
def targetF16 (b : List UInt8) : List UInt8 × Bool := if b.length < 12 ∨ 2048 < b.length then ([], false) else if 2048 < (TPRE ++ encB b).length then ([], false) else (TPRE ++ encB b, true)
theorem target_few {b : List UInt8} (h : b.length < 12 ∨ 2048 < b.length) : targetF16 b = ([], false) := by rw [targetF16, if_pos h]
theorem target_long {b : List UInt8} (h : ¬ (b.length < 12 ∨ 2048 < b.length)) (h2 : 2048 < (TPRE ++ encB b).length) : targetF16 b = ([], false) := by rw [targetF16, if_neg h, if_pos h2]
theorem tgt_ok {b : List UInt8} (h : ¬ (b.length < 12 ∨ 2048 < b.length)) (h2 : ¬ 2048 < (TPRE ++ encB b).length) : targetF16 b = (TPRE ++ encB b, true) := by rw [targetF16, if_neg h, if_neg h2]
theorem target_300 {b : List UInt8} (h1 : 12 ≤ b.length) (h2 : b.length ≤ 1400) : targetF16 b = (TPRE ++ encB b, true) := by
  refine tgt_ok (by omega) ?_
  rw [List.length_append, encB_len]
  have : TPRE.length = 15 := rfl
  omega
/-- Letters and digits. -/
def plCh (c : UInt8) : Bool := decide ((97 ≤ c.toNat ∧ c.toNat ≤ 122) ∨ (48 ≤ c.toNat ∧ c.toNat ≤ 57))
def plainF (s : List UInt8) : Bool := decide (s.length ≤ 20) && s.all plCh
theorem any_out {s : List UInt8} {p : UInt8 → Bool} {c : UInt8} (h : s.all p = true) (hc : p c = false) : s.any (fun x => x == c) = false := by
  rw [List.any_eq_false]
  intro x hx h2
  have := List.all_eq_true.1 h x hx
  rw [eq_of_beq h2, hc] at this; cases this
theorem plain_out {s : List UInt8} (h : plainF s = true) {c : UInt8} (hc : plCh c = false) : s.any (fun x => x == c) = false := by
  simp only [plainF, Bool.and_eq_true] at h
  exact any_out h.2 hc
theorem index_skip {c : UInt8} {l : List UInt8} (rest : List UInt8) (h : l.any (fun x => x == c) = false) : Lib.index (l ++ rest) [c] = if Lib.index rest [c] = -1 then -1 else Lib.index rest [c] + (l.length : Int) := by
  have hg := Lib.index_ge rest [c]
  induction l with
  | nil => simp only [List.nil_append, List.length_nil]; split <;> omega
  | cons a l ih =>
    have h1 : ¬ a = c := by simp at h; exact h.1
    have h2 : l.any (fun x => x == c) = false := by simp at h; simpa using h.2
    have hp : List.isPrefixOf [c] (a :: (l ++ rest)) = false := by
      simp only [List.isPrefixOf, Bool.and_eq_false_iff, beq_eq_false_iff_ne]; exact .inl fun e => h1 e.symm
    rw [List.cons_append, Lib.index, hp, ih h2]
    by_cases h3 : Lib.index rest [c] = -1
    · simp [h3]
    · have h4 : ¬ (Lib.index rest [c] + (l.length : Int) == -1) = true := by simp only [beq_iff_eq]; omega
      simp only [if_neg h3, if_neg h4, Bool.false_eq_true, if_false, List.length_cons]; omega
theorem cut_hit {c : UInt8} {n v : List UInt8} (h : n.any (fun x => x == c) = false) : Lib.cut (n ++ c :: v) [c] = (n, v, true) := by
  have e : Lib.index (c :: v) [c] = 0 := by rw [Lib.index, if_pos]; simp [List.isPrefixOf]
  have e2 : Lib.index (n ++ c :: v) [c] = (n.length : Int) := by rw [index_skip _ h, e]; simp
  unfold Lib.cut
  rw [e2, if_pos (by omega)]
  simp
theorem cut_miss {c : UInt8} {n : List UInt8} (h : n.any (fun x => x == c) = false) : Lib.cut n [c] = (n, [], false) := by
  have e2 := index_skip [] h
  rw [List.append_nil] at e2
  have e : Lib.index [] [c] = -1 := rfl
  rw [e, if_pos rfl] at e2
  unfold Lib.cut
  rw [e2, if_neg (by decide)]
theorem plain_dns {s : List UInt8} (h : plainF s = true) : ¬ DNSE <+: s := by
  rintro ⟨t, rfl⟩
  have := plain_out h (c := 61) (by decide)
  simp [DNSE] at this
theorem let_out {s : List UInt8} (h : okB s = true) {c : UInt8} (hc : ¬ num64 c < 64) : s.any (fun x => x == c) = false := any_out h (decide_eq_false hc)
def aheadF (l : List (List UInt8)) : List UInt8 := l.flatMap fun x => x ++ [38]
def behindF (l : List (List UInt8)) : List UInt8 := l.flatMap fun x => 38 :: x
theorem ahead_snoc (l : List (List UInt8)) (k : Nat) (h : k < l.length) : aheadF (l.take (k + 1)) = aheadF (l.take k) ++ (l.getD k [] ++ [38]) := by
  rw [List.take_succ_eq_append_getElem h, show l.getD k [] = l[k] by simp [List.getD, h]]
  simp only [aheadF, List.flatMap_append, List.flatMap_cons, List.flatMap_nil, List.append_nil]
theorem behind_snoc (l : List (List UInt8)) (k : Nat) (h : k < l.length) : behindF (l.take (k + 1)) = behindF (l.take k) ++ (38 :: l.getD k []) := by
  rw [List.take_succ_eq_append_getElem h, show l.getD k [] = l[k] by simp [List.getD, h]]
  simp only [behindF, List.flatMap_append, List.flatMap_cons, List.flatMap_nil, List.append_nil]
theorem part_ahead (l : List (List UInt8)) (q : List UInt8) (h : ∀ x ∈ l, plainF x = true) : partF (aheadF l ++ q) = partF q := by
  induction l with
  | nil => rfl
  | cons x l ih =>
    have hx := h x (by simp)
    have e : aheadF (x :: l) ++ q = x ++ 38 :: (aheadF l ++ q) := by simp [aheadF]
    have hc := cut_hit (c := 38) (v := aheadF l ++ q) (plain_out hx (c := 38) (by decide))
    rw [e, part_more (by rw [hc]; exact plain_dns hx) (by rw [hc]), hc]
    exact ih fun y hy => h y (by simp [hy])
theorem part_dns {s : List UInt8} (v : List UInt8) (h : okB s = true) : partF (DNSE ++ (s ++ 38 :: v)) = some s := by
  have h1 : (DNSE ++ s).any (fun x => x == 38) = false := by
    rw [List.any_append, let_out h (by decide)]; decide
  have hc := cut_hit (c := 38) (v := v) h1
  rw [List.append_assoc] at hc
  rw [part_yes (by rw [hc]; exact ⟨s, rfl⟩), hc]
  rfl
theorem parts_good {b : List UInt8} {l : List (List UInt8)} {v : List UInt8} (h : ∀ x ∈ l, plainF x = true) (h1 : 12 ≤ b.length) (h2 : b.length ≤ 300) (fs : List Fld) : askF GETM (DNSQ ++ 63 :: (aheadF l ++ (DNSE ++ (encB b ++ 38 :: v)))) fs [] = (b, 200) := by
  have hc := cut_hit (c := 63) (n := DNSQ) (v := aheadF l ++ (DNSE ++ (encB b ++ 38 :: v))) (by decide)
  obtain ⟨_, _, _, ho⟩ := enc_bits b
  have hp : partF (Lib.cut (DNSQ ++ 63 :: (aheadF l ++ (DNSE ++ (encB b ++ 38 :: v)))) [63]).2.1 = some (encB b) := by
    rw [hc]; exact (part_ahead l _ h).trans (part_dns v ho)
  rw [ask_get (by rw [hc]) rfl, get_good hp (dec_enc b)]
  exact then_ok (by omega) (by omega)
theorem parts_other {o v : List UInt8} (h : plainF o = true) (fs : List Fld) (m : List UInt8) : askF m (DNSQ ++ 47 :: (o ++ 63 :: v)) fs [] = ([], 404) := by
  have hn : (DNSQ ++ 47 :: o).any (fun x => x == 63) = false := by
    rw [List.any_append, List.any_cons, plain_out h (c := 63) (by decide)]; decide
  have hc := cut_hit (c := 63) (v := v) hn
  rw [List.append_assoc, List.cons_append] at hc
  refine ask_404 ?_
  rw [hc]
  intro h2
  have := congrArg List.length h2
  simp [DNSQ] at this

theorem beh_head (l : List (List UInt8)) (w : List UInt8) : ∃ v, behindF l ++ 38 :: w = 38 :: v := by
  cases l with
  | nil => exact ⟨w, rfl⟩
  | cons x l => exact ⟨x ++ (behindF l ++ 38 :: w), by simp [behindF]⟩
theorem sub11 (e : List UInt8) : subl (TPRE ++ e) 11 (TPRE ++ e).length = DNSE ++ e := by rw [subl_from]; rfl
theorem pl_no {s : List UInt8} {i : Nat} (h : i < s.length) (hc : plCh (s.getD i 0) = false) : plainF s = false := by
  cases hp : plainF s with
  | false => rfl
  | true =>
    simp only [plainF, Bool.and_eq_true] at hp
    have := List.all_eq_true.1 hp.2 (s.getD i 0) (getD_mem (l := s) (i := i) h)
    rw [hc] at this; cases this
theorem pl_step {s : List UInt8} {k : Nat} (h : k < s.length) (ha : (s.take k).all plCh = true) (hc : plCh (s.getD k 0) = true) : (s.take (k + 1)).all plCh = true := by
  rw [List.take_succ_eq_append_getElem h, List.all_append, ha]
  have : s[k] = s.getD k 0 := by simp [List.getD, h]
  rw [this, List.all_cons, List.all_nil, hc]; rfl
theorem pl_yes {s : List UInt8} {k : Nat} (hk : s.length ≤ k) (h : (s.take k).all plCh = true) (h2 : s.length ≤ 20) : plainF s = true := by
  rw [List.take_of_length_le hk] at h
  rw [plainF, h, decide_eq_true h2]; rfl
theorem pl_long {s : List UInt8} (h : 20 < s.length) : plainF s = false := by rw [plainF, decide_eq_false (by omega)]; rfl

set_option maxHeartbeats 400000 in
theorem target_ok16 {w0 : World} {base : Nat} {H : List Seg} {A : Option Addr} {C : Nat} {b : List UInt8} (h : Rd tyB w0 base H A C b) :
    SCalls Tryd.prog 6 [.slice A b.length C] w0 base (H) (fun v H' => v = .tuple #[str (targetF16 b).1, .bool (targetF16 b).2] ∧ H' = H) := by
  have hle0 := h.le
  have hcap0 := h.cap
  refine SCalls.of_walk (n := 20) Tryd.func6 rfl rfl rfl fun cs => ?_
  refine At.seq ?_
  refine At.region ?_
  refine AtL.assign (.inl rfl) rfl rfl ?_
  refine AtL.assign (.inl rfl) rfl rfl ?_
  refine AtL.done ?_
  refine At.seq ?_
  refine At.seq ?_
  refine At.region ?_
  refine AtL.move (.inl rfl) rfl rfl ?_
  refine AtL.lenL Tryd.underlying22 (.inl rfl) rfl rfl ?_
  refine AtL.lss (.inl rfl) rfl rfl rfl ?_
  refine AtL.move (.inl rfl) rfl rfl ?_
  refine AtL.join 4 (E' := [(12, .bool (decide (((b.length : Int) < 12) ∨ (2048 < (b.length : Int))))), (0, .slice A b.length C)]) (H' := H) (fun J => ?_) ?_
  · refine AtL.split (t := 8) rfl ?_ ?_
    · intro hs8
      have hs8 : (b.length : Int) < 12 := of_decide_eq_true hs8
      refine AtL.skipped rfl rfl rfl rfl rfl rfl ?_
      refine AtL.skipped rfl rfl rfl rfl rfl rfl ?_
      refine AtL.skipped rfl rfl rfl rfl rfl rfl ?_
      refine AtL.pickT (.inl rfl) rfl rfl rfl ?_
      exact J _ (by exact ⟨(boolIs (by clear J; first | (simp [hs8]; done) | (simp_all; done) | grind)), rfl, trivial⟩)
    · intro hs8
      have hs8 : ¬ ((b.length : Int) < 12) := of_decide_eq_false hs8
      refine AtL.move (.inr ⟨_, _, _, rfl, rfl, rfl, rfl⟩) rfl rfl ?_
      refine AtL.lenL Tryd.underlying22 (.inr ⟨_, _, _, rfl, rfl, rfl, rfl⟩) rfl rfl ?_
      refine AtL.gtr (.inr ⟨_, _, _, rfl, rfl, rfl, rfl⟩) rfl rfl rfl ?_
      refine AtL.pickF (.inl rfl) rfl rfl rfl ?_
      exact J _ (by exact ⟨(boolIs (by clear J; first | (simp [hs8]; done) | (simp_all; done) | grind)), rfl, trivial⟩)
  · skip
    refine AtL.done ?_
    refine At.cond rfl ?_ ?_
    · intro hc1
      have hc1 : ((b.length : Int) < 12) ∨ (2048 < (b.length : Int)) := of_decide_eq_true hc1
      refine At.seq ?_
      refine At.region ?_
      refine AtL.assign (.inl rfl) rfl rfl ?_
      refine AtL.assign (.inl rfl) rfl rfl ?_
      refine AtL.done ?_
      exact At.ret Tryd.func6 rfl rfl (⟨by rw [target_few (by omega)]; rfl, rfl⟩)
    · intro hc1
      have hc1 : ¬ (((b.length : Int) < 12) ∨ (2048 < (b.length : Int))) := of_decide_eq_false hc1
      have hel := encB_len b
      refine At.skip ?_
      refine At.seq ?_
      refine At.region ?_
      refine AtL.move (.inl rfl) rfl rfl ?_
      refine AtL.call tf_body14 (.inl rfl) rfl rfl (b64enc_ok (b := b) h (by omega) (by omega)) ?_
      rintro _ _ ⟨rfl, hHq⟩
      obtain rfl := hHq.symm
      refine AtL.cat (.inl rfl) rfl rfl rfl (by simp only [List.length_cons, List.length_nil]; omega) ?_
      refine AtL.assign (.inl rfl) rfl rfl ?_
      refine AtL.done ?_
      refine At.seq ?_
      refine At.seq ?_
      refine At.region ?_
      refine AtL.move (.inl rfl) rfl rfl ?_
      refine AtL.lenS (l := [47, 100, 110, 115, 45, 113, 117, 101, 114, 121, 63, 100, 110, 115, 61] ++ (encB b)) Tryd.underlying9 (.inl rfl) rfl rfl ?_
      refine AtL.gtr (.inl rfl) rfl rfl rfl ?_
      refine AtL.done ?_
      refine At.cond rfl ?_ ?_
      · intro hc2
        have hc2 : 2048 < (([47, 100, 110, 115, 45, 113, 117, 101, 114, 121, 63, 100, 110, 115, 61] ++ (encB b)).length : Int) := of_decide_eq_true hc2
        refine At.seq ?_
        refine At.region ?_
        refine AtL.assign (.inl rfl) rfl rfl ?_
        refine AtL.assign (.inl rfl) rfl rfl ?_
        refine AtL.done ?_
        exact At.ret Tryd.func6 rfl rfl (⟨by rw [target_long (by omega) (by have h2 := hc2; show 2048 < (TPRE ++ encB b).length; exact Int.ofNat_lt.1 h2)]; rfl, rfl⟩)
      · intro hc2
        have hc2 : ¬ (2048 < (([47, 100, 110, 115, 45, 113, 117, 101, 114, 121, 63, 100, 110, 115, 61] ++ (encB b)).length : Int)) := of_decide_eq_false hc2
        refine At.skip ?_
        refine At.seq ?_
        refine At.region ?_
        refine AtL.move (.inl rfl) rfl rfl ?_
        refine AtL.assign (.inl rfl) rfl rfl ?_
        refine AtL.assign (.inl rfl) rfl rfl ?_
        refine AtL.done ?_
        exact At.ret Tryd.func6 rfl rfl (⟨by rw [tgt_ok (by omega) (by intro h2; exact hc2 (Int.ofNat_lt.2 h2))]; rfl, rfl⟩)

set_option maxHeartbeats 400000 in
theorem plain16_ok {w0 : World} {base : Nat} {H : List Seg} {s : List UInt8} (hs : s.length ≤ 140737488355328) :
    SCalls Tryd.prog 7 [str s] w0 base (H) (fun v H' => v = .bool (plainF s) ∧ H' = H) := by
  refine SCalls.of_walk (n := 35) Tryd.func7 rfl rfl rfl fun cs => ?_
  refine At.seq ?_
  refine At.region ?_
  refine AtL.assign (.inl rfl) rfl rfl ?_
  refine AtL.done ?_
  refine At.seq ?_
  refine At.seq ?_
  refine At.region ?_
  refine AtL.move (.inl rfl) rfl rfl ?_
  refine AtL.lenS (l := s) Tryd.underlying9 (.inl rfl) rfl rfl ?_
  refine AtL.gtr (.inl rfl) rfl rfl rfl ?_
  refine AtL.done ?_
  refine At.cond rfl ?_ ?_
  · intro hc1
    have hc1 : 20 < (s.length : Int) := of_decide_eq_true hc1
    refine At.seq ?_
    refine At.region ?_
    refine AtL.assign (.inl rfl) rfl rfl ?_
    refine AtL.done ?_
    exact At.ret Tryd.func7 rfl rfl (⟨by rw [pl_long (by omega)]; rfl, rfl⟩)
  · intro hc1
    have hc1 : ¬ (20 < (s.length : Int)) := of_decide_eq_false hc1
    refine At.skip ?_
    refine At.seq ?_
    refine At.seq ?_
    refine At.region ?_
    refine AtL.assign (.inl rfl) rfl rfl ?_
    refine AtL.done ?_
    refine At.block ?_
    refine At.loop (fun (i : Nat) => [(0, str s), (3, .int .i64 (i : Int))]) (fun (i : Nat) => H) (fun (i : Nat) => i ≤ s.length ∧ (s.take i).all plCh = true) (fun (i : Nat) => s.length - i) 0 (⟨Nat.zero_le _, rfl⟩) ⟨rfl, rfl, trivial⟩ rfl ?_
    rintro i ⟨hi, ha⟩ ihL1
    refine At.seq ?_
    refine At.seq ?_
    refine At.region ?_
    refine AtL.move (.inl rfl) rfl rfl ?_
    refine AtL.move (.inl rfl) rfl rfl ?_
    refine AtL.lenS (l := s) Tryd.underlying9 (.inl rfl) rfl rfl ?_
    refine AtL.lss (.inl rfl) rfl rfl rfl ?_
    refine AtL.done ?_
    refine At.cond rfl ?_ ?_
    · intro hc2
      have hc2 : (i : Int) < (s.length : Int) := of_decide_eq_true hc2
      refine At.skip ?_
      refine At.seq ?_
      refine At.block ?_
      refine At.seq ?_
      refine At.region ?_
      refine AtL.move (.inl rfl) rfl rfl ?_
      refine AtL.move (.inl rfl) rfl rfl ?_
      refine AtL.indexS (l := s) i rfl (by omega) Tryd.underlying9 (.inl rfl) rfl rfl rfl ?_
      refine AtL.lss (.inl rfl) rfl rfl rfl ?_
      refine AtL.move (.inl rfl) rfl rfl ?_
      refine AtL.join 5 (E' := [(22, .bool (decide ((((s.getD i 0).toNat : Int) < 97) ∨ (122 < ((s.getD i 0).toNat : Int))))), (0, str s), (3, .int .i64 (i : Int))]) (H' := H) (fun J => ?_) ?_
      · refine AtL.split (t := 17) rfl ?_ ?_
        · intro hs17
          have hs17 : ((s.getD i 0).toNat : Int) < 97 := of_decide_eq_true hs17
          refine AtL.skipped rfl rfl rfl rfl rfl rfl ?_
          refine AtL.skipped rfl rfl rfl rfl rfl rfl ?_
          refine AtL.skipped rfl rfl rfl rfl rfl rfl ?_
          refine AtL.skipped rfl rfl rfl rfl rfl rfl ?_
          refine AtL.pickT (.inl rfl) rfl rfl rfl ?_
          exact J _ (by exact ⟨(boolIs (by clear J; first | (simp [hs17]; done) | (simp_all; done) | grind)), rfl, rfl, trivial⟩)
        · intro hs17
          have hs17 : ¬ (((s.getD i 0).toNat : Int) < 97) := of_decide_eq_false hs17
          refine AtL.move (.inr ⟨_, _, _, rfl, rfl, rfl, rfl⟩) rfl rfl ?_
          refine AtL.move (.inr ⟨_, _, _, rfl, rfl, rfl, rfl⟩) rfl rfl ?_
          refine AtL.indexS (l := s) i rfl (by omega) Tryd.underlying9 (.inr ⟨_, _, _, rfl, rfl, rfl, rfl⟩) rfl rfl rfl ?_
          refine AtL.gtr (.inr ⟨_, _, _, rfl, rfl, rfl, rfl⟩) rfl rfl rfl ?_
          refine AtL.pickF (.inl rfl) rfl rfl rfl ?_
          exact J _ (by exact ⟨(boolIs (by clear J; first | (simp [hs17]; done) | (simp_all; done) | grind)), rfl, rfl, trivial⟩)
      · skip
        refine AtL.move (.inl rfl) rfl rfl ?_
        refine AtL.join 11 (E' := [(34, .bool (decide (((((s.getD i 0).toNat : Int) < 97) ∨ (122 < ((s.getD i 0).toNat : Int))) ∧ ((((s.getD i 0).toNat : Int) < 48) ∨ (57 < ((s.getD i 0).toNat : Int)))))), (0, str s), (3, .int .i64 (i : Int))]) (H' := H) (fun J => ?_) ?_
        · refine AtL.split (t := 23) rfl ?_ ?_
          · intro hs23
            have hs23 : (((s.getD i 0).toNat : Int) < 97) ∨ (122 < ((s.getD i 0).toNat : Int)) := of_decide_eq_true hs23
            refine AtL.move (.inr ⟨_, _, _, rfl, rfl, rfl, rfl⟩) rfl rfl ?_
            refine AtL.move (.inr ⟨_, _, _, rfl, rfl, rfl, rfl⟩) rfl rfl ?_
            refine AtL.indexS (l := s) i rfl (by omega) Tryd.underlying9 (.inr ⟨_, _, _, rfl, rfl, rfl, rfl⟩) rfl rfl rfl ?_
            refine AtL.lss (.inr ⟨_, _, _, rfl, rfl, rfl, rfl⟩) rfl rfl rfl ?_
            refine AtL.move (.inr ⟨_, _, _, rfl, rfl, rfl, rfl⟩) rfl rfl ?_
            refine AtL.join 5 (E' := [(33, .bool (decide ((((s.getD i 0).toNat : Int) < 48) ∨ (57 < ((s.getD i 0).toNat : Int))))), (0, str s), (3, .int .i64 (i : Int)), (23, .bool true)]) (H' := H) (fun J => ?_) ?_
            · refine AtL.split (t := 28) rfl ?_ ?_
              · intro hs28
                have hs28 : ((s.getD i 0).toNat : Int) < 48 := of_decide_eq_true hs28
                refine AtL.skipped rfl rfl rfl rfl rfl rfl ?_
                refine AtL.skipped rfl rfl rfl rfl rfl rfl ?_
                refine AtL.skipped rfl rfl rfl rfl rfl rfl ?_
                refine AtL.skipped rfl rfl rfl rfl rfl rfl ?_
                refine AtL.pickT (.inr ⟨_, _, _, rfl, rfl, rfl, rfl⟩) rfl rfl rfl ?_
                exact J _ (by exact ⟨(boolIs (by clear J; first | (simp [hs28]; done) | (simp_all; done) | grind)), rfl, rfl, rfl, trivial⟩)
              · intro hs28
                have hs28 : ¬ (((s.getD i 0).toNat : Int) < 48) := of_decide_eq_false hs28
                refine AtL.move (.inr ⟨_, _, _, rfl, rfl, rfl, rfl⟩) rfl rfl ?_
                refine AtL.move (.inr ⟨_, _, _, rfl, rfl, rfl, rfl⟩) rfl rfl ?_
                refine AtL.indexS (l := s) i rfl (by omega) Tryd.underlying9 (.inr ⟨_, _, _, rfl, rfl, rfl, rfl⟩) rfl rfl rfl ?_
                refine AtL.gtr (.inr ⟨_, _, _, rfl, rfl, rfl, rfl⟩) rfl rfl rfl ?_
                refine AtL.pickF (.inr ⟨_, _, _, rfl, rfl, rfl, rfl⟩) rfl rfl rfl ?_
                exact J _ (by exact ⟨(boolIs (by clear J; first | (simp [hs28]; done) | (simp_all; done) | grind)), rfl, rfl, rfl, trivial⟩)
            · skip
              refine AtL.pickT (.inl rfl) rfl rfl rfl ?_
              exact J _ (by exact ⟨(boolIs (by clear J; first | (simp [hs23]; done) | (simp_all; done) | grind)), rfl, rfl, trivial⟩)
          · intro hs23
            have hs23 : ¬ ((((s.getD i 0).toNat : Int) < 97) ∨ (122 < ((s.getD i 0).toNat : Int))) := of_decide_eq_false hs23
            refine AtL.skipped rfl rfl rfl rfl rfl rfl ?_
            refine AtL.skipped rfl rfl rfl rfl rfl rfl ?_
            refine AtL.skipped rfl rfl rfl rfl rfl rfl ?_
            refine AtL.skipped rfl rfl rfl rfl rfl rfl ?_
            refine AtL.skipped rfl rfl rfl rfl rfl rfl ?_
            refine AtL.skippedU rfl rfl rfl rfl rfl ?_
            refine AtL.skippedU rfl rfl rfl rfl rfl ?_
            refine AtL.skippedU rfl rfl rfl rfl rfl ?_
            refine AtL.skippedU rfl rfl rfl rfl rfl ?_
            refine AtL.skipped rfl rfl rfl rfl rfl rfl ?_
            refine AtL.pickF (.inl rfl) rfl rfl rfl ?_
            exact J _ (by exact ⟨(boolIs (by clear J; first | (simp [hs23]; done) | (simp_all; done) | grind)), rfl, rfl, trivial⟩)
        · skip
          refine AtL.done ?_
          refine At.cond rfl ?_ ?_
          · intro hc3
            have hc3 : ((((s.getD i 0).toNat : Int) < 97) ∨ (122 < ((s.getD i 0).toNat : Int))) ∧ ((((s.getD i 0).toNat : Int) < 48) ∨ (57 < ((s.getD i 0).toNat : Int))) := of_decide_eq_true hc3
            refine At.seq ?_
            refine At.region ?_
            refine AtL.assign (.inl rfl) rfl rfl ?_
            refine AtL.done ?_
            exact At.ret Tryd.func7 rfl rfl (⟨by rw [pl_no (i := i) (by omega) (decide_eq_false (by omega))]; rfl, rfl⟩)
          · intro hc3
            have hc3 : ¬ (((((s.getD i 0).toNat : Int) < 97) ∨ (122 < ((s.getD i 0).toNat : Int))) ∧ ((((s.getD i 0).toNat : Int) < 48) ∨ (57 < ((s.getD i 0).toNat : Int)))) := of_decide_eq_false hc3
            refine At.skip ?_
            refine At.inBlock ?_
            refine At.region ?_
            refine AtL.move (.inl rfl) rfl rfl ?_
            refine AtL.add (z := (i : Int) + 1) (.inl rfl) rfl rfl rfl (w64 (by omega) (by omega)) ?_
            refine AtL.assign (.inl rfl) rfl rfl ?_
            refine AtL.done ?_
            refine ihL1 (i + 1) (⟨by omega, pl_step (by omega) ha (decide_eq_true (by omega))⟩) (by omega) _ ?_
            exact ⟨rfl, (by first | rfl | exact slLen (by simp []) | exact intEq (by omega) | exact intEq (by simp []) | exact slLen (by simp []; omega)), trivial⟩
    · intro hc2
      have hc2 : ¬ ((i : Int) < (s.length : Int)) := of_decide_eq_false hc2
      refine At.exit rfl ?_
      refine At.seq ?_
      refine At.region ?_
      refine AtL.assign (.inl rfl) rfl rfl ?_
      refine AtL.done ?_
      exact At.ret Tryd.func7 rfl rfl (⟨by rw [pl_yes (by omega) ha (by omega)]; rfl, rfl⟩)

end Go.Proofs.YtlkdmbpbjhjkfaaDoor
