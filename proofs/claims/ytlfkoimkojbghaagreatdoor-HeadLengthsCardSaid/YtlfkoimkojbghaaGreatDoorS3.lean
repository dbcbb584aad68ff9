/- HeadLengths: the walk. -/
import Derived.Test.YtlfkoimkojbghaaGreatDoorS1
import Derived.Test.YtlfkoimkojbghaaGreatDoorI2
namespace Go.Proofs.YtlfkoimkojbghaaGreatDoor
set_option linter.unusedVariables false
set_option linter.unusedSimpArgs false
set_option maxRecDepth 100000

theorem Do.own1 {X : Pt} {E : Env} {H : List Seg} {op : Op} {α : Type} (T : Ty α) {e n : Nat} {l : List α} {cs : Array Value} (hd : Does X E H op (fun v H' => ∃ b, v = .slice (some ⟨b, 0, none⟩) n n ∧ H' = [(b, .cells cs e (0, 0))] :: H)) (hcs : cs = (T.cells l).toArray) (hn : n = l.length) (hle : l.length ≤ 9223372036854775807) :
    Does X E H op (fun v H' => ∃ b s, Own T e (some ⟨b, 0, none⟩) n l s ∧ v = .slice (some ⟨b, 0, none⟩) n n ∧ H' = s :: H) := by
  refine hd.mono ?_
  rintro v H' ⟨b, rfl, rfl⟩
  obtain ⟨s, hs, ho⟩ := own_new T e b l n _ rfl hn hle
  exact ⟨b, s, ho, rfl, by rw [hs, hcs]⟩
theorem dig_int (n : Nat) : UInt8.ofInt (48 + (n : Int) % 10) = UInt8.ofNat (48 + n % 10) := by
  rw [UInt8.ofInt]
  congr 1
  omega
theorem dec_len10 (n : Nat) (h : n ≤ 1073741824) : (decF n).length ≤ 10 := by
  refine (decF_num n).2.2 9 ?_
  have h2 : (10 : Nat) ^ 10 = 10000000000 := by decide
  omega
theorem dec_rec {n : Nat} (h : ¬ n < 10) : decF n = decF (n / 10) ++ [UInt8.ofNat (48 + n % 10)] := by
  conv => lhs; rw [decF, if_neg h]
theorem dig_lt (n : Nat) (h : n < 10) : UInt8.ofInt (48 + (n : Int)) = UInt8.ofNat (48 + n) := by
  rw [UInt8.ofInt]
  congr 1
  omega

set_option maxHeartbeats 400000 in
theorem decimal_step {w0 : World} {base : Nat} {H : List Seg} (n : Nat) (hn : n ≤ 1073741824) (ih : 10 ≤ n → ∀ {H : List Seg}, SCalls Tryz.prog 48 [int ((n : Int) / 10)] w0 base H (fun v H' => v = str (decF (n / 10)) ∧ H' = H)) :
    SCalls Tryz.prog 48 [.int .i64 (n : Int)] w0 base (H) (fun v H' => v = str (decF n) ∧ H' = H) := by
  refine SCalls.of_walk (n := 20) Tryz.func48 rfl rfl rfl fun cs => ?_
  refine At.seq ?_
  refine At.region ?_
  refine AtL.assign (.inl rfl) rfl rfl ?_
  refine AtL.done ?_
  refine At.seq ?_
  refine At.seq ?_
  refine At.region ?_
  refine AtL.move (.inl rfl) rfl rfl ?_
  refine AtL.lss (.inl rfl) rfl rfl rfl ?_
  refine AtL.done ?_
  refine At.cond rfl ?_ ?_
  · intro hc1
    have hc1 : (n : Int) < 10 := of_decide_eq_true hc1
    refine At.seq ?_
    refine At.region ?_
    refine AtL.move (.inl rfl) rfl rfl ?_
    refine AtL.add (z := 48 + (n : Int)) (.inl rfl) rfl rfl rfl (w64 (by omega) (by omega)) ?_
    refine AtL.convInt (z := ((UInt8.ofInt (48 + (n : Int))).toNat : Int)) Tryz.underlying3 Tryz.underlying5 (.inl rfl) rfl rfl (u8_conv _) ?_
    refine AtL.buildSlice (cs := [.int .u8 ((UInt8.ofInt (48 + (n : Int))).toNat : Int)]) Tryz.underlying22 tf_zero5 tf_sz5 rfl rfl (.inl rfl) rfl rfl rfl ?_
    intro b1
    refine AtL.own1 tyB (l := ([(UInt8.ofInt (48 + (n : Int)))] : List UInt8)) rfl rfl (by first | decide | simp) ?_
    intro s2 o3
    refine AtL.strOf (o3.rd (i := 0) rfl) Tryz.underlying22 Tryz.underlying5 Tryz.underlying9 (.inl rfl) rfl rfl ?_
    refine AtL.assign (.inl rfl) rfl rfl ?_
    refine AtL.done ?_
    refine At.pick (H' := H) [] 1 rfl rfl ?_
    exact At.ret Tryz.func48 rfl rfl (⟨by rw [decF, if_pos (by omega), dig_lt n (by omega)]; first | done | rfl, rfl⟩)
  · intro hc1
    have hc1 : ¬ ((n : Int) < 10) := of_decide_eq_false hc1
    refine At.skip ?_
    refine At.seq ?_
    refine At.draw (es := [7]) (pv := [(0, .int .i64 (n : Int)), (1, .int .i64 ((n : Int) / 10)), (2, str (decF (n / 10))), (3, .int .i64 (n : Int)), (4, .int .i64 ((n : Int) % 10)), (5, .int .i64 (48 + ((n : Int) % 10))), (6, .int .u8 ((UInt8.ofInt (48 + ((n : Int) % 10))).toNat : Int))]) tf_mixed (by kernel_rfl) (by kernel_rfl) (by kernel_rfl) ?_
    refine ⟨⟨.inr ⟨_, rfl, rfl, .inl ⟨rfl, Do.move rfl⟩⟩, .inr ⟨_, rfl, rfl, .inl ⟨rfl, Do.quo (z := (n : Int) / 10) rfl rfl (by omega) (quo_eq (by omega) (by omega) (by omega))⟩⟩, .inr ⟨_, rfl, rfl, .inl ⟨rfl, Do.call tf_body48 rfl (ih (by omega))⟩⟩, .inr ⟨_, rfl, rfl, .inl ⟨rfl, Do.move rfl⟩⟩, .inr ⟨_, rfl, rfl, .inl ⟨rfl, Do.rem (z := (n : Int) % 10) rfl rfl (by omega) (rem_eq (by omega))⟩⟩, .inr ⟨_, rfl, rfl, .inl ⟨rfl, Do.add (z := 48 + ((n : Int) % 10)) rfl rfl (w64 (by omega) (by omega))⟩⟩, .inr ⟨_, rfl, rfl, .inl ⟨rfl, Do.convInt (z := ((UInt8.ofInt (48 + ((n : Int) % 10))).toNat : Int)) Tryz.underlying3 Tryz.underlying5 rfl (u8_conv _)⟩⟩, trivial⟩, rfl, rfl, by kernel_rfl, _, rfl, rfl, rfl, _, Do.own1 tyB (l := ([(UInt8.ofInt (48 + ((n : Int) % 10)))] : List UInt8)) (Do.buildSlice (cs := [.int .u8 ((UInt8.ofInt (48 + ((n : Int) % 10))).toNat : Int)]) Tryz.underlying22 tf_zero5 tf_sz5 rfl rfl rfl rfl) rfl rfl (by first | decide | simp), ?_⟩
    rintro _ _ ⟨b4, s5, o6, rfl, rfl⟩
    refine ⟨[(8, str [(UInt8.ofInt (48 + ((n : Int) % 10)))]), (9, str ((decF (n / 10)) ++ [(UInt8.ofInt (48 + ((n : Int) % 10)))])), (10, str ((decF (n / 10)) ++ [(UInt8.ofInt (48 + ((n : Int) % 10)))]))], rfl, ?_⟩
    refine ⟨⟨.inr ⟨_, rfl, rfl, .inl ⟨rfl, Do.strOf (o6.rd (i := 0) rfl) Tryz.underlying22 Tryz.underlying5 Tryz.underlying9 rfl⟩⟩, .inr ⟨_, rfl, rfl, .inl ⟨rfl, Do.cat rfl rfl (by have h1 := dec_len10 (n / 10) (by omega); simp only [List.length_cons, List.length_nil]; omega)⟩⟩, .inr ⟨_, rfl, rfl, .inl ⟨rfl, Do.assign rfl⟩⟩, .inr ⟨_, rfl, rfl, .inl ⟨rfl, Do.move rfl⟩⟩, .inr ⟨_, rfl, rfl, .inl ⟨rfl, Do.quo (z := (n : Int) / 10) rfl rfl (by omega) (quo_eq (by omega) (by omega) (by omega))⟩⟩, .inr ⟨_, rfl, rfl, .inl ⟨rfl, Do.call tf_body48 rfl (ih (by omega))⟩⟩, .inl (by kernel_rfl), .inl (by kernel_rfl), .inl (by kernel_rfl), .inl (by kernel_rfl), trivial⟩, by kernel_rfl, ?_⟩
    refine At.mono (E' := [(2, str ((decF (n / 10)) ++ [(UInt8.ofInt (48 + ((n : Int) % 10)))]))]) ⟨rfl, trivial⟩ ?_
    refine At.pick (H' := H) [] 1 rfl rfl ?_
    exact At.ret Tryz.func48 rfl rfl (⟨by rw [dec_rec (n := n) (by omega), dig_int]; first | done | rfl, rfl⟩)

theorem decimal_ok {w0 : World} {base : Nat} (n : Nat) (hn : n ≤ 1073741824) : ∀ {H : List Seg}, SCalls Tryz.prog 48 [int (n : Int)] w0 base H (fun v H' => v = str (decF n) ∧ H' = H) := by
  induction n using Nat.strongRecOn with
  | _ n ih =>
    intro H
    refine decimal_step n hn (fun h10 {H} => ?_)
    have := ih (n / 10) (by omega) (by omega) (H := H)
    rwa [show ((n / 10 : Nat) : Int) = (n : Int) / 10 by omega] at this
theorem decimal_int {w0 : World} {base : Nat} {n : Int} (h0 : 0 ≤ n) (h1 : n ≤ 1073741824) {H : List Seg} : SCalls Tryz.prog 48 [int n] w0 base H (fun v H' => v = str (decF n.toNat) ∧ H' = H) := by
  have := decimal_ok (w0 := w0) (base := base) n.toNat (by omega) (H := H)
  rwa [show ((n.toNat : Nat) : Int) = n by omega] at this
theorem dec_len {n : Int} (h1 : n ≤ 1073741824) : (decF n.toNat).length ≤ 10 := by
  refine (decF_num n.toNat).2.2 9 ?_
  have : (10 : Nat) ^ 10 = 10000000000 := by decide
  omega
theorem len_a {n : Int} (h0 : 0 ≤ n) (h1 : n ≤ 1073741824) : ∃ a b : Int, lengthF [([67, 111, 110, 116, 101, 110, 116, 45, 76, 101, 110, 103, 116, 104], decF n.toNat)] = (a, b) ∧ (n ≤ 65535 → a = n ∧ b = 200) ∧ (65535 < n → b = 413) := by
  have h := len1 n.toNat (by omega)
  by_cases hb : 65535 < n.toNat
  · rw [if_pos hb] at h
    exact ⟨_, _, h, fun _ => by omega, fun _ => rfl⟩
  · rw [if_neg hb] at h
    exact ⟨_, _, h, fun _ => by omega, fun _ => by omega⟩
theorem len_b {n : Int} (h1 : n ≤ 1073741824) (other : List UInt8) : ∃ a b : Int, lengthF ([([67, 111, 110, 116, 101, 110, 116, 45, 76, 101, 110, 103, 116, 104], decF n.toNat)] ++ [([67, 79, 78, 84, 69, 78, 84, 45, 108, 101, 110, 103, 116, 104], other)]) = (a, b) ∧ (b = 400 ↔ ¬ other = decF n.toNat) := by
  have h := len2 n.toNat (by omega) other
  obtain ⟨a, b, hab⟩ : ∃ a b : Int, lengthF [(CL1, decF n.toNat), (CL2, other)] = (a, b) := ⟨_, _, rfl⟩
  rw [hab] at h
  rw [List.singleton_append, show ([67, 111, 110, 116, 101, 110, 116, 45, 76, 101, 110, 103, 116, 104] : List UInt8) = CL1 from rfl, show ([67, 79, 78, 84, 69, 78, 84, 45, 108, 101, 110, 103, 116, 104] : List UInt8) = CL2 from rfl, hab]
  refine ⟨a, b, rfl, ?_⟩
  have h : b = if other = decF n.toNat then (if 65535 < n.toNat then 413 else 200) else 400 := h
  rw [h]
  by_cases ho : other = decF n.toNat
  · by_cases hb : 65535 < n.toNat <;> simp [ho, hb]
  · simp [ho]
theorem len_c (t other : List UInt8) : ∃ a : Int, lengthF (([([67, 111, 110, 116, 101, 110, 116, 45, 76, 101, 110, 103, 116, 104], t)] ++ [([67, 79, 78, 84, 69, 78, 84, 45, 108, 101, 110, 103, 116, 104], other)]) ++ [([84, 114, 97, 110, 115, 102, 101, 114, 45, 69, 110, 99, 111, 100, 105, 110, 103], [105, 100, 101, 110, 116, 105, 116, 121])]) = (a, 501) := by
  have h := len3 t other [105, 100, 101, 110, 116, 105, 116, 121]
  obtain ⟨a, b, hab⟩ : ∃ a b : Int, lengthF [(CL1, t), (CL2, other), (TE1, [105, 100, 101, 110, 116, 105, 116, 121])] = (a, b) := ⟨_, _, rfl⟩
  rw [hab] at h
  have h : b = 501 := h
  subst h
  rw [List.singleton_append, List.cons_append, List.singleton_append, show ([67, 111, 110, 116, 101, 110, 116, 45, 76, 101, 110, 103, 116, 104] : List UInt8) = CL1 from rfl, show ([67, 79, 78, 84, 69, 78, 84, 45, 108, 101, 110, 103, 116, 104] : List UInt8) = CL2 from rfl, show ([84, 114, 97, 110, 115, 102, 101, 114, 45, 69, 110, 99, 111, 100, 105, 110, 103] : List UInt8) = TE1 from rfl]
  exact ⟨a, hab⟩
theorem length_known {w0 : World} {base : Nat} {H : List Seg} {Ad : Option Addr} {C : Nat} {minor : Int} {fs : List Fld} {a b : Int} (hp : lengthF fs = (a, b)) (h : Rd tyField w0 base H Ad C fs) (hfl : fs.length ≤ 1000) (hb : ∀ f ∈ fs, f.1.length ≤ 140737488355000 ∧ f.2.length ≤ 140737488355000) :
    SCalls Tryz.prog 50 [.agg #[str GET, str SLA, int minor, .slice Ad fs.length C]] w0 base H (fun v H' => v = .tuple #[int a, int b] ∧ H' = H) := by
  have := length_ok (m := GET) (t := SLA) (minor := minor) h hfl hb
  rw [hp] at this
  exact this

set_option maxHeartbeats 1000000 in
theorem headlengths_ok {w0 : World} {base : Nat} {H : List Seg} (n : Int) {other : List UInt8} (T : Tabs w0 base) :
    SCalls Tryz.prog 9 [.int .i64 n, str other] w0 base (H) (fun v H' => v = .bool true ∧ H' = H) := by
  refine SCalls.of_walk (n := 91) Tryz.func9 rfl rfl rfl fun cs => ?_
  refine At.seq ?_
  refine At.region ?_
  refine AtL.assign (.inl rfl) rfl rfl ?_
  refine AtL.done ?_
  refine At.seq ?_
  refine At.region ?_
  refine AtL.call tf_body31 (.inl rfl) rfl rfl (awake_ok T) ?_
  rintro _ _ ⟨rfl, hHq⟩
  obtain rfl := hHq.symm
  refine AtL.assign (.inl rfl) rfl rfl ?_
  refine AtL.done ?_
  refine At.seq ?_
  refine At.seq ?_
  refine At.region ?_
  refine AtL.move (.inl rfl) rfl rfl ?_
  refine AtL.lss (.inl rfl) rfl rfl rfl ?_
  refine AtL.move (.inl rfl) rfl rfl ?_
  refine AtL.join 3 (E' := [(20, .bool (decide (((n : Int) < 0) ∨ (1073741824 < (n : Int))))), (0, .int .i64 n), (1, str other), (5, .bool true)]) (H' := H) (fun J => ?_) ?_
  · refine AtL.split (t := 17) rfl ?_ ?_
    · intro hs17
      have hs17 : (n : Int) < 0 := of_decide_eq_true hs17
      refine AtL.skipped rfl rfl rfl rfl rfl rfl ?_
      refine AtL.skipped rfl rfl rfl rfl rfl rfl ?_
      refine AtL.pickT (.inl rfl) rfl rfl rfl ?_
      exact J _ (by exact ⟨(boolIs (by clear J; first | (simp [hs17]; done) | (simp_all; done) | grind)), rfl, rfl, rfl, trivial⟩)
    · intro hs17
      have hs17 : ¬ ((n : Int) < 0) := of_decide_eq_false hs17
      refine AtL.move (.inr ⟨_, _, _, rfl, rfl, rfl, rfl⟩) rfl rfl ?_
      refine AtL.gtr (.inr ⟨_, _, _, rfl, rfl, rfl, rfl⟩) rfl rfl rfl ?_
      refine AtL.pickF (.inl rfl) rfl rfl rfl ?_
      exact J _ (by exact ⟨(boolIs (by clear J; first | (simp [hs17]; done) | (simp_all; done) | grind)), rfl, rfl, rfl, trivial⟩)
  · skip
    refine AtL.move (.inl rfl) rfl rfl ?_
    refine AtL.join 4 (E' := [(25, .bool (decide ((((n : Int) < 0) ∨ (1073741824 < (n : Int))) ∨ (100 < (other.length : Int))))), (0, .int .i64 n), (1, str other), (5, .bool true)]) (H' := H) (fun J => ?_) ?_
    · refine AtL.split (t := 21) rfl ?_ ?_
      · intro hs21
        have hs21 : ((n : Int) < 0) ∨ (1073741824 < (n : Int)) := of_decide_eq_true hs21
        refine AtL.skipped rfl rfl rfl rfl rfl rfl ?_
        refine AtL.skipped rfl rfl rfl rfl rfl rfl ?_
        refine AtL.skipped rfl rfl rfl rfl rfl rfl ?_
        refine AtL.pickT (.inl rfl) rfl rfl rfl ?_
        exact J _ (by exact ⟨(boolIs (by clear J; first | (simp [hs21]; done) | (simp_all; done) | grind)), rfl, rfl, rfl, trivial⟩)
      · intro hs21
        have hs21 : ¬ (((n : Int) < 0) ∨ (1073741824 < (n : Int))) := of_decide_eq_false hs21
        refine AtL.move (.inr ⟨_, _, _, rfl, rfl, rfl, rfl⟩) rfl rfl ?_
        refine AtL.lenS (l := other) Tryz.underlying9 (.inr ⟨_, _, _, rfl, rfl, rfl, rfl⟩) rfl rfl ?_
        refine AtL.gtr (.inr ⟨_, _, _, rfl, rfl, rfl, rfl⟩) rfl rfl rfl ?_
        refine AtL.pickF (.inl rfl) rfl rfl rfl ?_
        exact J _ (by exact ⟨(boolIs (by clear J; first | (simp [hs21]; done) | (simp_all; done) | grind)), rfl, rfl, rfl, trivial⟩)
    · skip
      refine AtL.done ?_
      refine At.cond rfl ?_ ?_
      · intro hc1
        have hc1 : (((n : Int) < 0) ∨ (1073741824 < (n : Int))) ∨ (100 < (other.length : Int)) := of_decide_eq_true hc1
        refine At.seq ?_
        refine At.region ?_
        refine AtL.move (.inl rfl) rfl rfl ?_
        refine AtL.assign (.inl rfl) rfl rfl ?_
        refine AtL.done ?_
        exact At.ret Tryz.func9 rfl rfl (⟨rfl, rfl⟩)
      · intro hc1
        have hc1 : ¬ ((((n : Int) < 0) ∨ (1073741824 < (n : Int))) ∨ (100 < (other.length : Int))) := of_decide_eq_false hc1
        obtain ⟨hn0, hn1, hoth⟩ : 0 ≤ n ∧ n ≤ 1073741824 ∧ other.length ≤ 100 := by omega
        have hdl := dec_len hn1
        obtain ⟨a1, b1, hA, hA1, hA2⟩ := len_a hn0 hn1
        obtain ⟨a2, b2, hB, hB1⟩ := len_b hn1 other
        obtain ⟨a3, hC⟩ := len_c (decF n.toNat) other
        refine At.skip ?_
        refine At.seq ?_
        refine At.region ?_
        refine AtL.move (.inl rfl) rfl rfl ?_
        refine AtL.call tf_body48 (.inl rfl) rfl rfl (decimal_int hn0 hn1) ?_
        rintro _ _ ⟨rfl, hHq⟩
        obtain rfl := hHq.symm
        refine AtL.assign (.inl rfl) rfl rfl ?_
        refine AtL.done ?_
        refine At.seq ?_
        refine At.region ?_
        refine AtL.move (.inl rfl) rfl rfl ?_
        refine AtL.call tf_body49 (.inl rfl) rfl rfl (of_ok 1 [67, 111, 110, 116, 101, 110, 116, 45, 76, 101, 110, 103, 116, 104] (decF n.toNat)) ?_
        rintro _ _ ⟨⟨A1, C2, l3, s4, o5⟩, hx6, rfl, rfl⟩
        obtain rfl : [(([67, 111, 110, 116, 101, 110, 116, 45, 76, 101, 110, 103, 116, 104] : List UInt8), decF n.toNat)] = l3 := hx6.symm
        refine AtL.alloc tf_zero35 (cs := #[str [], str [], .int .i64 0, .slice none 0 0]) rfl (.inl rfl) rfl ?_
        intro b7
        refine AtL.store (H' := [(b7, .cells #[str GET, str SLA, .int .i64 1, .slice A1 ([(([67, 111, 110, 116, 101, 110, 116, 45, 76, 101, 110, 103, 116, 104] : List UInt8), decF n.toNat)]).length C2] 35 (0, 0))] :: s4 :: H) 0 0 tf_sz35 (.inl rfl) rfl rfl rfl rfl rfl rfl rfl rfl rfl ?_
        refine AtL.done ?_
        refine At.seq ?_
        refine At.region ?_
        refine AtL.loadN (cs := [str GET, str SLA, .int .i64 1, .slice A1 ([(([67, 111, 110, 116, 101, 110, 116, 45, 76, 101, 110, 103, 116, 104] : List UInt8), decF n.toNat)]).length C2]) tf_agg35 (.inl rfl) rfl rfl rfl (cellsOwn 0 0 0 rfl rfl rfl) ?_
        refine AtL.call tf_body50 (.inl rfl) rfl rfl (length_known hA (o5.rd (i := 1) rfl) (by simp) (by simp; omega)) ?_
        rintro _ _ ⟨rfl, rfl⟩
        refine AtL.move (.inl rfl) rfl rfl ?_
        refine AtL.extract (.inl rfl) rfl rfl rfl ?_
        refine AtL.extract (.inl rfl) rfl rfl rfl ?_
        refine AtL.assign (.inl rfl) rfl rfl ?_
        refine AtL.assign (.inl rfl) rfl rfl ?_
        refine AtL.done ?_
        refine At.seq ?_
        refine At.seq ?_
        refine At.region ?_
        refine AtL.move (.inl rfl) rfl rfl ?_
        refine AtL.leq (.inl rfl) rfl rfl rfl ?_
        refine AtL.move (.inl rfl) rfl rfl ?_
        refine AtL.join 8 (E' := [(46, .bool (decide (((n : Int) ≤ 65535) ∧ ((¬ ((a1 : Int) = n)) ∨ (¬ ((b1 : Int) = 200)))))), (0, .int .i64 n), (1, str other), (5, .bool true), (6, str (decF n.toNat)), (7, .pointer (some ⟨b7, 0, none⟩)), (9, .int .i64 b1)]) (H' := [(b7, .cells #[str GET, str SLA, .int .i64 1, .slice A1 ([(([67, 111, 110, 116, 101, 110, 116, 45, 76, 101, 110, 103, 116, 104] : List UInt8), decF n.toNat)]).length C2] 35 (0, 0))] :: s4 :: H) (fun J => ?_) ?_
        · refine AtL.split (t := 38) rfl ?_ ?_
          · intro hs38
            have hs38 : (n : Int) ≤ 65535 := of_decide_eq_true hs38
            refine AtL.move (.inr ⟨_, _, _, rfl, rfl, rfl, rfl⟩) rfl rfl ?_
            refine AtL.move (.inr ⟨_, _, _, rfl, rfl, rfl, rfl⟩) rfl rfl ?_
            refine AtL.nei (.inr ⟨_, _, _, rfl, rfl, rfl, rfl⟩) rfl rfl rfl ?_
            refine AtL.move (.inr ⟨_, _, _, rfl, rfl, rfl, rfl⟩) rfl rfl ?_
            refine AtL.join 3 (E' := [(45, .bool (decide ((¬ ((a1 : Int) = n)) ∨ (¬ ((b1 : Int) = 200))))), (0, .int .i64 n), (1, str other), (5, .bool true), (6, str (decF n.toNat)), (7, .pointer (some ⟨b7, 0, none⟩)), (9, .int .i64 b1), (38, .bool true)]) (H' := [(b7, .cells #[str GET, str SLA, .int .i64 1, .slice A1 ([(([67, 111, 110, 116, 101, 110, 116, 45, 76, 101, 110, 103, 116, 104] : List UInt8), decF n.toNat)]).length C2] 35 (0, 0))] :: s4 :: H) (fun J => ?_) ?_
            · refine AtL.split (t := 42) rfl ?_ ?_
              · intro hs42
                have hs42 : ¬ ((a1 : Int) = n) := of_decide_eq_false (bnot_true hs42)
                refine AtL.skipped rfl rfl rfl rfl rfl rfl ?_
                refine AtL.skipped rfl rfl rfl rfl rfl rfl ?_
                refine AtL.pickT (.inr ⟨_, _, _, rfl, rfl, rfl, rfl⟩) rfl rfl rfl ?_
                exact J _ (by exact ⟨(boolIs (by clear J; first | (simp [hs42]; done) | (simp_all; done) | grind)), rfl, rfl, rfl, rfl, rfl, rfl, rfl, trivial⟩)
              · intro hs42
                have hs42 : (a1 : Int) = n := of_decide_eq_true (bnot_false hs42)
                refine AtL.move (.inr ⟨_, _, _, rfl, rfl, rfl, rfl⟩) rfl rfl ?_
                refine AtL.nei (.inr ⟨_, _, _, rfl, rfl, rfl, rfl⟩) rfl rfl rfl ?_
                refine AtL.pickF (.inr ⟨_, _, _, rfl, rfl, rfl, rfl⟩) rfl rfl rfl ?_
                exact J _ (by exact ⟨(boolIs (by clear J; first | (simp [hs42]; done) | (simp_all; done) | grind)), rfl, rfl, rfl, rfl, rfl, rfl, rfl, trivial⟩)
            · skip
              refine AtL.pickT (.inl rfl) rfl rfl rfl ?_
              exact J _ (by exact ⟨(boolIs (by clear J; first | (simp [hs38]; done) | (simp_all; done) | grind)), rfl, rfl, rfl, rfl, rfl, rfl, trivial⟩)
          · intro hs38
            have hs38 : ¬ ((n : Int) ≤ 65535) := of_decide_eq_false hs38
            refine AtL.skipped rfl rfl rfl rfl rfl rfl ?_
            refine AtL.skipped rfl rfl rfl rfl rfl rfl ?_
            refine AtL.skipped rfl rfl rfl rfl rfl rfl ?_
            refine AtL.skipped rfl rfl rfl rfl rfl rfl ?_
            refine AtL.skippedU rfl rfl rfl rfl rfl ?_
            refine AtL.skippedU rfl rfl rfl rfl rfl ?_
            refine AtL.skipped rfl rfl rfl rfl rfl rfl ?_
            refine AtL.pickF (.inl rfl) rfl rfl rfl ?_
            exact J _ (by exact ⟨(boolIs (by clear J; first | (simp [hs38]; done) | (simp_all; done) | grind)), rfl, rfl, rfl, rfl, rfl, rfl, trivial⟩)
        · skip
          refine AtL.move (.inl rfl) rfl rfl ?_
          refine AtL.join 7 (E' := [(54, .bool (decide ((((n : Int) ≤ 65535) ∧ ((¬ ((a1 : Int) = n)) ∨ (¬ ((b1 : Int) = 200)))) ∨ ((65535 < (n : Int)) ∧ (¬ ((b1 : Int) = 413)))))), (1, str other), (5, .bool true), (6, str (decF n.toNat)), (7, .pointer (some ⟨b7, 0, none⟩))]) (H' := [(b7, .cells #[str GET, str SLA, .int .i64 1, .slice A1 ([(([67, 111, 110, 116, 101, 110, 116, 45, 76, 101, 110, 103, 116, 104] : List UInt8), decF n.toNat)]).length C2] 35 (0, 0))] :: s4 :: H) (fun J => ?_) ?_
          · refine AtL.split (t := 47) rfl ?_ ?_
            · intro hs47
              have hs47 : ((n : Int) ≤ 65535) ∧ ((¬ ((a1 : Int) = n)) ∨ (¬ ((b1 : Int) = 200))) := of_decide_eq_true hs47
              refine AtL.skipped rfl rfl rfl rfl rfl rfl ?_
              refine AtL.skipped rfl rfl rfl rfl rfl rfl ?_
              refine AtL.skipped rfl rfl rfl rfl rfl rfl ?_
              refine AtL.skippedU rfl rfl rfl rfl rfl ?_
              refine AtL.skippedU rfl rfl rfl rfl rfl ?_
              refine AtL.skipped rfl rfl rfl rfl rfl rfl ?_
              refine AtL.pickT (.inl rfl) rfl rfl rfl ?_
              exact J _ (by exact ⟨(boolIs (by clear J; first | (simp [hs47]; done) | (simp_all; done) | grind)), rfl, rfl, rfl, rfl, trivial⟩)
            · intro hs47
              have hs47 : ¬ (((n : Int) ≤ 65535) ∧ ((¬ ((a1 : Int) = n)) ∨ (¬ ((b1 : Int) = 200)))) := of_decide_eq_false hs47
              refine AtL.move (.inr ⟨_, _, _, rfl, rfl, rfl, rfl⟩) rfl rfl ?_
              refine AtL.gtr (.inr ⟨_, _, _, rfl, rfl, rfl, rfl⟩) rfl rfl rfl ?_
              refine AtL.move (.inr ⟨_, _, _, rfl, rfl, rfl, rfl⟩) rfl rfl ?_
              refine AtL.join 3 (E' := [(53, .bool (decide ((65535 < (n : Int)) ∧ (¬ ((b1 : Int) = 413))))), (1, str other), (5, .bool true), (6, str (decF n.toNat)), (7, .pointer (some ⟨b7, 0, none⟩)), (47, .bool false)]) (H' := [(b7, .cells #[str GET, str SLA, .int .i64 1, .slice A1 ([(([67, 111, 110, 116, 101, 110, 116, 45, 76, 101, 110, 103, 116, 104] : List UInt8), decF n.toNat)]).length C2] 35 (0, 0))] :: s4 :: H) (fun J => ?_) ?_
              · refine AtL.split (t := 50) rfl ?_ ?_
                · intro hs50
                  have hs50 : 65535 < (n : Int) := of_decide_eq_true hs50
                  refine AtL.move (.inr ⟨_, _, _, rfl, rfl, rfl, rfl⟩) rfl rfl ?_
                  refine AtL.nei (.inr ⟨_, _, _, rfl, rfl, rfl, rfl⟩) rfl rfl rfl ?_
                  refine AtL.pickT (.inr ⟨_, _, _, rfl, rfl, rfl, rfl⟩) rfl rfl rfl ?_
                  exact J _ (by exact ⟨(boolIs (by clear J; first | (simp [hs50]; done) | (simp_all; done) | grind)), rfl, rfl, rfl, rfl, rfl, trivial⟩)
                · intro hs50
                  have hs50 : ¬ (65535 < (n : Int)) := of_decide_eq_false hs50
                  refine AtL.skipped rfl rfl rfl rfl rfl rfl ?_
                  refine AtL.skipped rfl rfl rfl rfl rfl rfl ?_
                  refine AtL.pickF (.inr ⟨_, _, _, rfl, rfl, rfl, rfl⟩) rfl rfl rfl ?_
                  exact J _ (by exact ⟨(boolIs (by clear J; first | (simp [hs50]; done) | (simp_all; done) | grind)), rfl, rfl, rfl, rfl, rfl, trivial⟩)
              · skip
                refine AtL.pickF (.inl rfl) rfl rfl rfl ?_
                exact J _ (by exact ⟨(boolIs (by clear J; first | (simp [hs47]; done) | (simp_all; done) | grind)), rfl, rfl, rfl, rfl, trivial⟩)
          · skip
            refine AtL.done ?_
            refine At.cond rfl ?_ ?_
            · intro hc2
              have hc2 : (((n : Int) ≤ 65535) ∧ ((¬ ((a1 : Int) = n)) ∨ (¬ ((b1 : Int) = 200)))) ∨ ((65535 < (n : Int)) ∧ (¬ ((b1 : Int) = 413))) := of_decide_eq_true hc2
              omega
            · intro hc2
              have hc2 : ¬ ((((n : Int) ≤ 65535) ∧ ((¬ ((a1 : Int) = n)) ∨ (¬ ((b1 : Int) = 200)))) ∨ ((65535 < (n : Int)) ∧ (¬ ((b1 : Int) = 413)))) := of_decide_eq_false hc2
              refine At.skip ?_
              refine At.seq ?_
              refine At.region ?_
              refine AtL.fieldAddrB tf_fo35_3 (.inl rfl) rfl rfl rfl ?_
              refine AtL.load tf_flat33 (.inl rfl) rfl rfl (Cell.own 0 0 rfl rfl rfl) ?_
              refine AtL.move (.inl rfl) rfl rfl ?_
              refine AtL.build (cs := [str [67, 79, 78, 84, 69, 78, 84, 45, 108, 101, 110, 103, 116, 104], str other]) tf_lay52 (.inl rfl) rfl rfl rfl ?_
              refine AtL.buildSlice (cs := [str [67, 79, 78, 84, 69, 78, 84, 45, 108, 101, 110, 103, 116, 104], str other]) Tryz.underlying33 tf_zero52 tf_sz52 rfl rfl (.inl rfl) rfl rfl rfl ?_
              intro b8
              refine AtL.own1 tyField (l := ([(([67, 79, 78, 84, 69, 78, 84, 45, 108, 101, 110, 103, 116, 104] : List UInt8), other)] : List (List UInt8 × List UInt8))) rfl rfl (by first | decide | simp) ?_
              intro s9 o10
              refine AtL.append (l := [(([67, 111, 110, 116, 101, 110, 116, 45, 76, 101, 110, 103, 116, 104] : List UInt8), decF n.toNat)]) (news := [(([67, 79, 78, 84, 69, 78, 84, 45, 108, 101, 110, 103, 116, 104] : List UInt8), other)]) 2 tf_el33 rfl o5 (o10.rd (i := 0) rfl) (by first | omega | (simp only [List.length_append, List.length_cons, List.length_nil]; omega) | (simp; done) | (simp; omega)) (.inl rfl) rfl rfl rfl ?_
              intro A11 C12 s13 o14
              refine AtL.fieldAddrB tf_fo35_3 (.inl rfl) rfl rfl rfl ?_
              refine AtL.store (H' := s9 :: [(b7, .cells #[str GET, str SLA, .int .i64 1, .slice A11 (([(([67, 111, 110, 116, 101, 110, 116, 45, 76, 101, 110, 103, 116, 104] : List UInt8), decF n.toNat)]) ++ ([(([67, 79, 78, 84, 69, 78, 84, 45, 108, 101, 110, 103, 116, 104] : List UInt8), other)])).length C12] 35 (0, 0))] :: s13 :: H) 1 0 tf_sz33 (.inl rfl) rfl rfl rfl rfl rfl rfl rfl rfl rfl ?_
              refine AtL.done ?_
              refine At.seq ?_
              refine At.region ?_
              refine AtL.loadN (cs := [str GET, str SLA, .int .i64 1, .slice A11 (([(([67, 111, 110, 116, 101, 110, 116, 45, 76, 101, 110, 103, 116, 104] : List UInt8), decF n.toNat)]) ++ ([(([67, 79, 78, 84, 69, 78, 84, 45, 108, 101, 110, 103, 116, 104] : List UInt8), other)])).length C12]) tf_agg35 (.inl rfl) rfl rfl rfl (cellsOwn 1 0 0 rfl rfl rfl) ?_
              refine AtL.call tf_body50 (.inl rfl) rfl rfl (length_known hB (o14.rd (i := 2) rfl) (by simp) (by simp; omega)) ?_
              rintro _ _ ⟨rfl, rfl⟩
              refine AtL.move (.inl rfl) rfl rfl ?_
              refine AtL.extract (.inl rfl) rfl rfl rfl ?_
              refine AtL.extract (.inl rfl) rfl rfl rfl ?_
              refine AtL.assign (.inl rfl) rfl rfl ?_
              refine AtL.assign (.inl rfl) rfl rfl ?_
              refine AtL.done ?_
              refine At.seq ?_
              refine At.region ?_
              refine AtL.fieldAddrB tf_fo35_3 (.inl rfl) rfl rfl rfl ?_
              refine AtL.load tf_flat33 (.inl rfl) rfl rfl (Cell.own 1 0 rfl rfl rfl) ?_
              refine AtL.build (cs := [str [84, 114, 97, 110, 115, 102, 101, 114, 45, 69, 110, 99, 111, 100, 105, 110, 103], str [105, 100, 101, 110, 116, 105, 116, 121]]) tf_lay52 (.inl rfl) rfl rfl rfl ?_
              refine AtL.buildSlice (cs := [str [84, 114, 97, 110, 115, 102, 101, 114, 45, 69, 110, 99, 111, 100, 105, 110, 103], str [105, 100, 101, 110, 116, 105, 116, 121]]) Tryz.underlying33 tf_zero52 tf_sz52 rfl rfl (.inl rfl) rfl rfl rfl ?_
              intro b15
              refine AtL.own1 tyField (l := ([(([84, 114, 97, 110, 115, 102, 101, 114, 45, 69, 110, 99, 111, 100, 105, 110, 103] : List UInt8), ([105, 100, 101, 110, 116, 105, 116, 121] : List UInt8))] : List (List UInt8 × List UInt8))) rfl rfl (by first | decide | simp) ?_
              intro s16 o17
              refine AtL.append (l := ([(([67, 111, 110, 116, 101, 110, 116, 45, 76, 101, 110, 103, 116, 104] : List UInt8), decF n.toNat)]) ++ ([(([67, 79, 78, 84, 69, 78, 84, 45, 108, 101, 110, 103, 116, 104] : List UInt8), other)])) (news := [(([84, 114, 97, 110, 115, 102, 101, 114, 45, 69, 110, 99, 111, 100, 105, 110, 103] : List UInt8), ([105, 100, 101, 110, 116, 105, 116, 121] : List UInt8))]) 3 tf_el33 rfl o14 (o17.rd (i := 0) rfl) (by first | omega | (simp only [List.length_append, List.length_cons, List.length_nil]; omega) | (simp; done) | (simp; omega)) (.inl rfl) rfl rfl rfl ?_
              intro A18 C19 s20 o21
              refine AtL.fieldAddrB tf_fo35_3 (.inl rfl) rfl rfl rfl ?_
              refine AtL.store (H' := s16 :: s9 :: [(b7, .cells #[str GET, str SLA, .int .i64 1, .slice A18 ((([(([67, 111, 110, 116, 101, 110, 116, 45, 76, 101, 110, 103, 116, 104] : List UInt8), decF n.toNat)]) ++ ([(([67, 79, 78, 84, 69, 78, 84, 45, 108, 101, 110, 103, 116, 104] : List UInt8), other)])) ++ ([(([84, 114, 97, 110, 115, 102, 101, 114, 45, 69, 110, 99, 111, 100, 105, 110, 103] : List UInt8), ([105, 100, 101, 110, 116, 105, 116, 121] : List UInt8))])).length C19] 35 (0, 0))] :: s20 :: H) 2 0 tf_sz33 (.inl rfl) rfl rfl rfl rfl rfl rfl rfl rfl rfl ?_
              refine AtL.done ?_
              refine At.seq ?_
              refine At.region ?_
              refine AtL.loadN (cs := [str GET, str SLA, .int .i64 1, .slice A18 ((([(([67, 111, 110, 116, 101, 110, 116, 45, 76, 101, 110, 103, 116, 104] : List UInt8), decF n.toNat)]) ++ ([(([67, 79, 78, 84, 69, 78, 84, 45, 108, 101, 110, 103, 116, 104] : List UInt8), other)])) ++ ([(([84, 114, 97, 110, 115, 102, 101, 114, 45, 69, 110, 99, 111, 100, 105, 110, 103] : List UInt8), ([105, 100, 101, 110, 116, 105, 116, 121] : List UInt8))])).length C19]) tf_agg35 (.inl rfl) rfl rfl rfl (cellsOwn 2 0 0 rfl rfl rfl) ?_
              refine AtL.call tf_body50 (.inl rfl) rfl rfl (length_known hC (o21.rd (i := 3) rfl) (by simp) (by simp; omega)) ?_
              rintro _ _ ⟨rfl, rfl⟩
              refine AtL.move (.inl rfl) rfl rfl ?_
              refine AtL.extract (.inl rfl) rfl rfl rfl ?_
              refine AtL.extract (.inl rfl) rfl rfl rfl ?_
              refine AtL.assign (.inl rfl) rfl rfl ?_
              refine AtL.assign (.inl rfl) rfl rfl ?_
              refine AtL.done ?_
              refine At.seq ?_
              refine At.region ?_
              refine AtL.move (.inl rfl) rfl rfl ?_
              refine AtL.move (.inl rfl) rfl rfl ?_
              refine AtL.move (.inr ⟨_, _, _, rfl, rfl, rfl, rfl⟩) rfl rfl ?_
              refine AtL.eqi (.inr ⟨_, _, _, rfl, rfl, rfl, rfl⟩) rfl rfl rfl ?_
              refine AtL.move (.inr ⟨_, _, _, rfl, rfl, rfl, rfl⟩) rfl rfl ?_
              refine AtL.move (.inr ⟨_, _, _, rfl, rfl, rfl, rfl⟩) rfl rfl ?_
              refine AtL.nes (a := other) (b := decF n.toNat) (.inr ⟨_, _, _, rfl, rfl, rfl, rfl⟩) rfl rfl rfl ?_
              refine AtL.eqb Tryz.underlying4 (.inr ⟨_, _, _, rfl, rfl, rfl, rfl⟩) rfl rfl rfl ?_
              refine AtL.pickT (.inl rfl) rfl rfl rfl ?_
              refine AtL.move (.inl rfl) rfl rfl ?_
              refine AtL.join 3 (E' := [(90, .bool true)]) (H' := s16 :: s9 :: [(b7, .cells #[str GET, str SLA, .int .i64 1, .slice A18 ((([(([67, 111, 110, 116, 101, 110, 116, 45, 76, 101, 110, 103, 116, 104] : List UInt8), decF n.toNat)]) ++ ([(([67, 79, 78, 84, 69, 78, 84, 45, 108, 101, 110, 103, 116, 104] : List UInt8), other)])) ++ ([(([84, 114, 97, 110, 115, 102, 101, 114, 45, 69, 110, 99, 111, 100, 105, 110, 103] : List UInt8), ([105, 100, 101, 110, 116, 105, 116, 121] : List UInt8))])).length C19] 35 (0, 0))] :: s20 :: H) (fun J => ?_) ?_
              · refine AtL.split (t := 87) rfl ?_ ?_
                · intro hs87
                  have hs87 : ((decide ((b2 : Int) = 400)) == (!(decide (other = decF n.toNat)))) = true := hs87
                  refine AtL.move (.inr ⟨_, _, _, rfl, rfl, rfl, rfl⟩) rfl rfl ?_
                  refine AtL.eqi (.inr ⟨_, _, _, rfl, rfl, rfl, rfl⟩) rfl rfl rfl ?_
                  refine AtL.pickT (.inl rfl) rfl rfl rfl ?_
                  exact J _ (by exact ⟨rfl, trivial⟩)
                · intro hs87
                  have hs87 : ((decide ((b2 : Int) = 400)) == (!(decide (other = decF n.toNat)))) = false := hs87
                  exfalso; revert hs87; simp [hB1]
              · skip
                refine AtL.assign (.inl rfl) rfl rfl ?_
                refine AtL.done ?_
                refine At.pick (H' := H) [] 4 rfl rfl ?_
                exact At.ret Tryz.func9 rfl rfl (⟨rfl, rfl⟩)

end Go.Proofs.YtlfkoimkojbghaaGreatDoor
