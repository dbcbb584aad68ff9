/- Heads: bytes and words. -/
import Derived.Test.YtlkdmbpbjhjkfaaGreatDoorH1
namespace Go.Proofs.YtlkdmbpbjhjkfaaGreatDoor
set_option linter.unusedVariables false
set_option linter.unusedSimpArgs false
set_option maxRecDepth 100000

/-- The first k bytes turned. -/
def mapTo (f : UInt8 → UInt8) (l : List UInt8) (k : Nat) : List UInt8 := (l.take k).map f ++ l.drop k
theorem mapTo_len (f : UInt8 → UInt8) (l : List UInt8) (k : Nat) : (mapTo f l k).length = l.length := by simp [mapTo]; omega
theorem mapTo_zero (f : UInt8 → UInt8) (l : List UInt8) : mapTo f l 0 = l := by simp [mapTo]
theorem mapTo_all (f : UInt8 → UInt8) (l : List UInt8) : mapTo f l l.length = l.map f := by simp [mapTo]
theorem mapTo_get (f : UInt8 → UInt8) (l : List UInt8) (k : Nat) (h : k < l.length) : (mapTo f l k).getD k 0 = l.getD k 0 := by
  have hl : ((l.take k).map f).length = k := by simp; omega
  simp only [mapTo, List.getD]
  rw [List.getElem?_append_right (by omega), hl, Nat.sub_self, List.getElem?_drop, Nat.add_zero]
theorem mapTo_set (f : UInt8 → UInt8) (l : List UInt8) (k : Nat) (h : k < l.length) : (mapTo f l k).set k (f (l.getD k 0)) = mapTo f l (k + 1) := by
  have hl : ((l.take k).map f).length = k := by simp; omega
  unfold mapTo
  rw [List.set_append_right _ _ (by omega), hl, Nat.sub_self]
  rw [List.drop_eq_getElem_cons h, List.set_cons_zero]
  rw [List.take_succ_eq_append_getElem h, List.map_append]
  simp [List.getD, h]
theorem mapTo_same (f : UInt8 → UInt8) (l : List UInt8) (k : Nat) (h : k < l.length) (hf : f (l.getD k 0) = l.getD k 0) : mapTo f l (k + 1) = mapTo f l k := by
  rw [← mapTo_set f l k h, hf, ← mapTo_get f l k h]
  apply List.ext_getElem (by simp)
  intro i h1 h2
  rw [List.getElem_set]
  split
  · rename_i h3; subst h3; simp [List.getD, h2]
  · rfl
theorem lowB_up {c : UInt8} (h : (65 : Int) ≤ (c.toNat : Int) ∧ (c.toNat : Int) ≤ 90) : lowB c = c + 32 := by
  rw [lowB, if_pos ⟨by show (65 : Nat) ≤ c.toNat; omega, by show c.toNat ≤ 90; omega⟩]
theorem lowB_no {c : UInt8} (h : ¬ ((65 : Int) ≤ (c.toNat : Int) ∧ (c.toNat : Int) ≤ 90)) : lowB c = c := by
  rw [lowB, if_neg]
  rintro ⟨h1, h2⟩
  have h1 : (65 : Nat) ≤ c.toNat := h1
  have h2 : c.toNat ≤ 90 := h2
  omega
theorem add32 {c : UInt8} (h : (65 : Int) ≤ (c.toNat : Int) ∧ (c.toNat : Int) ≤ 90) : IntKind.u8.wrap ((c.toNat : Int) + 32) = ((lowB c).toNat : Int) := by
  rw [lowB_up h, UInt8.toNat_add]
  have h2 : (c.toNat + (32 : UInt8).toNat) % 2 ^ 8 = c.toNat + 32 := by
    rw [show (32 : UInt8).toNat = 32 from rfl]; omega
  rw [h2]
  exact w8 (by omega) (by omega)

set_option maxHeartbeats 400000 in
theorem lower_ok {w0 : World} {base : Nat} {H : List Seg} {l : List UInt8} (hl : l.length ≤ 140737488355000) :
    SCalls Tryz.prog 119 [str l] w0 base (H) (fun v H' => v = str (lowerF l) ∧ H' = H) := by
  refine SCalls.of_walk (n := 29) Tryz.func119 rfl rfl rfl fun cs => ?_
  refine At.seq ?_
  refine At.region ?_
  refine AtL.assign (.inl rfl) rfl rfl ?_
  refine AtL.done ?_
  refine At.seq ?_
  refine At.region ?_
  refine AtL.move (.inl rfl) rfl rfl ?_
  refine AtL.bytesOf (l := l) Tryz.underlying9 Tryz.underlying22 Tryz.underlying5 (by first | omega | (simp only [List.length_append, List.length_cons, List.length_nil]; omega) | (simp; done) | (simp; omega)) (.inl rfl) rfl rfl ?_
  intro A1 C2 s3 n5 o4
  refine AtL.assign (.inl rfl) rfl rfl ?_
  refine AtL.done ?_
  refine At.seq ?_
  refine At.seq ?_
  refine At.region ?_
  refine AtL.move (.inl rfl) rfl rfl ?_
  refine AtL.lenL Tryz.underlying22 (.inl rfl) rfl rfl ?_
  refine AtL.move (.inl rfl) rfl rfl ?_
  refine AtL.done ?_
  refine At.block ?_
  refine At.loop2 (fun (k : Nat) (s2 : Seg) => [(3, .slice A1 (mapTo lowB l k).length C2), (8, .slice A1 (mapTo lowB l k).length C2), (9, .int .i64 (l.length : Int)), (10, .int .i64 (k : Int))]) (fun (k : Nat) (s2 : Seg) => s2 :: H) (fun (k : Nat) (s2 : Seg) => k ≤ l.length ∧ Own tyB 5 A1 (C2) (mapTo lowB l k) s2) (fun (k : Nat) (s2 : Seg) => l.length - k) 0 s3 (⟨Nat.zero_le _, by rw [mapTo_zero]; exact o4⟩) ⟨rfl, rfl, rfl, rfl, trivial⟩ rfl ?_
  rintro k s2 ⟨hk, ho⟩ ihL1
  have hlen := mapTo_len lowB l k
  have hcap := Own.cap_le ho
  have hle := Own.le_cap ho
  refine At.seq ?_
  refine At.region ?_
  refine AtL.lss (.inl rfl) rfl rfl rfl ?_
  refine AtL.done ?_
  refine At.seq ?_
  refine At.cond rfl ?_ ?_
  · intro hc1
    have hc1 : (k : Int) < (l.length : Int) := of_decide_eq_true hc1
    refine At.skip ?_
    refine At.seq ?_
    refine At.block ?_
    refine At.seq ?_
    refine At.region ?_
    refine AtL.move (.inl rfl) rfl rfl ?_
    refine AtL.indexL k (ho.rd (i := 0) rfl) Tryz.underlying22 tf_sz5 (.inl rfl) rfl rfl rfl rfl (by omega) ?_
    refine AtL.load (v := .int .u8 (((mapTo lowB l k).getD k 0).toNat : Int)) tf_flat5 (.inl rfl) rfl rfl (Rd.cell0 (ho.rd (i := 0) rfl) (getD_some 0 (by omega)) rfl) ?_
    refine AtL.assign (.inl rfl) rfl rfl ?_
    refine AtL.assign (.inl rfl) rfl rfl ?_
    refine AtL.done ?_
    refine At.seq ?_
    refine At.region ?_
    refine AtL.move (.inl rfl) rfl rfl ?_
    refine AtL.geq (.inl rfl) rfl rfl rfl ?_
    refine AtL.move (.inl rfl) rfl rfl ?_
    refine AtL.join 3 (E' := [(20, .bool (decide ((65 ≤ (((mapTo lowB l k).getD k 0).toNat : Int)) ∧ ((((mapTo lowB l k).getD k 0).toNat : Int) ≤ 90)))), (3, .slice A1 (mapTo lowB l k).length C2), (4, .int .i64 (k : Int)), (5, .int .u8 (((mapTo lowB l k).getD k 0).toNat : Int)), (8, .slice A1 (mapTo lowB l k).length C2), (9, .int .i64 (l.length : Int)), (10, .int .i64 (k : Int))]) (H' := s2 :: H) (fun J => ?_) ?_
    · refine AtL.split (t := 17) rfl ?_ ?_
      · intro hs17
        have hs17 : 65 ≤ (((mapTo lowB l k).getD k 0).toNat : Int) := of_decide_eq_true hs17
        refine AtL.move (.inr ⟨_, _, _, rfl, rfl, rfl, rfl⟩) rfl rfl ?_
        refine AtL.leq (.inr ⟨_, _, _, rfl, rfl, rfl, rfl⟩) rfl rfl rfl ?_
        refine AtL.pickT (.inl rfl) rfl rfl rfl ?_
        exact J _ (by exact ⟨(boolIs (by clear J; first | (simp [hs17]; done) | (simp_all; done) | grind)), rfl, rfl, rfl, rfl, rfl, rfl, trivial⟩)
      · intro hs17
        have hs17 : ¬ (65 ≤ (((mapTo lowB l k).getD k 0).toNat : Int)) := of_decide_eq_false hs17
        refine AtL.skipped rfl rfl rfl rfl rfl rfl ?_
        refine AtL.skipped rfl rfl rfl rfl rfl rfl ?_
        refine AtL.pickF (.inl rfl) rfl rfl rfl ?_
        exact J _ (by exact ⟨(boolIs (by clear J; first | (simp [hs17]; done) | (simp_all; done) | grind)), rfl, rfl, rfl, rfl, rfl, rfl, trivial⟩)
    · skip
      refine AtL.done ?_
      refine At.cond rfl ?_ ?_
      · intro hc2
        have hc2 : (65 ≤ (((mapTo lowB l k).getD k 0).toNat : Int)) ∧ ((((mapTo lowB l k).getD k 0).toNat : Int) ≤ 90) := of_decide_eq_true hc2
        refine At.region ?_
        refine AtL.move (.inl rfl) rfl rfl ?_
        refine AtL.move (.inl rfl) rfl rfl ?_
        refine AtL.move (.inl rfl) rfl rfl ?_
        refine AtL.add (z := (lowB ((mapTo lowB l k).getD k 0)).toNat) (.inl rfl) rfl rfl rfl (add32 hc2) ?_
        refine AtL.indexL k (ho.rd (i := 0) rfl) Tryz.underlying22 tf_sz5 (.inl rfl) rfl rfl rfl rfl (by omega) ?_
        refine AtL.setIdx (u := (lowB ((mapTo lowB l k).getD k 0))) 0 k tf_sz5 rfl ho (by omega) (.inl rfl) rfl rfl ?_
        intro s6 o7
        refine AtL.relen (m := ((mapTo lowB l k).set k (lowB ((mapTo lowB l k).getD k 0))).length) 3 rfl (List.length_set) ?_
        refine AtL.relen (m := ((mapTo lowB l k).set k (lowB ((mapTo lowB l k).getD k 0))).length) 8 rfl (List.length_set) ?_
        refine AtL.done ?_
        refine At.inBlock ?_
        refine At.region ?_
        refine AtL.add (z := (k : Int) + 1) (.inl rfl) rfl rfl rfl (w64 (by omega) (by omega)) ?_
        refine AtL.move (.inl rfl) rfl rfl ?_
        refine AtL.done ?_
        refine ihL1 (k + 1) s6 (⟨by omega, by rw [← mapTo_set _ _ _ (by omega), ← mapTo_get lowB l k (by omega)]; exact o7⟩) (by omega) _ ?_
        exact ⟨(by first | rfl | exact slLen (by simp [mapTo_len]) | exact intEq (by omega) | exact intEq (by simp [mapTo_len]) | exact slLen (by simp [mapTo_len]; omega)), (by first | rfl | exact slLen (by simp [mapTo_len]) | exact intEq (by omega) | exact intEq (by simp [mapTo_len]) | exact slLen (by simp [mapTo_len]; omega)), rfl, (by first | rfl | exact slLen (by simp [mapTo_len]) | exact intEq (by omega) | exact intEq (by simp [mapTo_len]) | exact slLen (by simp [mapTo_len]; omega)), trivial⟩
      · intro hc2
        have hc2 : ¬ ((65 ≤ (((mapTo lowB l k).getD k 0).toNat : Int)) ∧ ((((mapTo lowB l k).getD k 0).toNat : Int) ≤ 90)) := of_decide_eq_false hc2
        refine At.skip ?_
        refine At.inBlock ?_
        refine At.region ?_
        refine AtL.add (z := (k : Int) + 1) (.inl rfl) rfl rfl rfl (w64 (by omega) (by omega)) ?_
        refine AtL.move (.inl rfl) rfl rfl ?_
        refine AtL.done ?_
        refine ihL1 (k + 1) s2 (⟨by omega, by rw [mapTo_same _ _ _ (by omega) (by rw [← mapTo_get lowB l k (by omega)]; exact lowB_no hc2)]; exact ho⟩) (by omega) _ ?_
        exact ⟨(by first | rfl | exact slLen (by simp [mapTo_len]) | exact intEq (by omega) | exact intEq (by simp [mapTo_len]) | exact slLen (by simp [mapTo_len]; omega)), (by first | rfl | exact slLen (by simp [mapTo_len]) | exact intEq (by omega) | exact intEq (by simp [mapTo_len]) | exact slLen (by simp [mapTo_len]; omega)), rfl, (by first | rfl | exact slLen (by simp [mapTo_len]) | exact intEq (by omega) | exact intEq (by simp [mapTo_len]) | exact slLen (by simp [mapTo_len]; omega)), trivial⟩
  · intro hc1
    have hc1 : ¬ ((k : Int) < (l.length : Int)) := of_decide_eq_false hc1
    obtain rfl : k = l.length := by omega
    refine At.exit rfl ?_
    refine At.seq ?_
    refine At.region ?_
    refine AtL.move (.inl rfl) rfl rfl ?_
    refine AtL.strOf (ho.rd (i := 0) rfl) Tryz.underlying22 Tryz.underlying5 Tryz.underlying9 (.inl rfl) rfl rfl ?_
    refine AtL.assign (.inl rfl) rfl rfl ?_
    refine AtL.done ?_
    refine At.pick (H' := H) [] 1 rfl rfl ?_
    exact At.ret Tryz.func119 rfl rfl (⟨congrArg str (by rw [mapTo_all, lowerF]), rfl⟩)

theorem take_succ_d (l : List UInt8) (k : Nat) (h : k < l.length) : l.take (k + 1) = l.take k ++ [l.getD k 0] := by
  rw [List.take_succ_eq_append_getElem h]; simp [List.getD, h]
theorem all_step {p : UInt8 → Bool} {l : List UInt8} {k : Nat} (h : k < l.length) (ha : (l.take k).all p = true) (hp : p (l.getD k 0) = true) : (l.take (k + 1)).all p = true := by
  rw [take_succ_d l k h, List.all_append, ha]; simpa using hp
theorem all_bad {p : UInt8 → Bool} {l : List UInt8} {k : Nat} (h : k < l.length) (hp : p (l.getD k 0) = false) : l.all p = false := by
  rw [List.all_eq_false]
  refine ⟨l.getD k 0, ?_, by rw [hp]; simp⟩
  simp [List.getD, h]
theorem all_end {p : UInt8 → Bool} {l : List UInt8} {k : Nat} (h : l.length ≤ k) (ha : (l.take k).all p = true) : l.all p = true := by
  rw [List.take_of_length_le h] at ha; exact ha
/-- A byte is a number below 256, and back. -/
theorem u8_eq {c : UInt8} {n : Nat} (hn : n < 256) : (c.toNat : Int) = (n : Int) ↔ c = UInt8.ofNat n := by
  constructor
  · intro h
    have h : c.toNat = n := by omega
    apply UInt8.toNat_inj.1
    rw [h, UInt8.toNat_ofNat_of_lt' hn]
  · rintro rfl
    rw [UInt8.toNat_ofNat_of_lt' hn]

set_option maxHeartbeats 400000 in
theorem digit_ok {w0 : World} {base : Nat} {H : List Seg} (c : UInt8) :
    SCalls Tryz.prog 142 [.int .u8 (c.toNat : Int)] w0 base (H) (fun v H' => v = .bool (decide (48 ≤ (c.toNat : Int) ∧ (c.toNat : Int) ≤ 57)) ∧ H' = H) := by
  refine SCalls.of_walk (n := 9) Tryz.func142 rfl rfl rfl fun cs => ?_
  refine At.seq ?_
  refine At.region ?_
  refine AtL.assign (.inl rfl) rfl rfl ?_
  refine AtL.done ?_
  refine At.seq ?_
  refine At.region ?_
  refine AtL.move (.inl rfl) rfl rfl ?_
  refine AtL.geq (.inl rfl) rfl rfl rfl ?_
  refine AtL.move (.inl rfl) rfl rfl ?_
  refine AtL.join 3 (E' := [(8, .bool (decide ((48 ≤ (c.toNat : Int)) ∧ ((c.toNat : Int) ≤ 57))))]) (H' := H) (fun J => ?_) ?_
  · refine AtL.split (t := 5) rfl ?_ ?_
    · intro hs5
      have hs5 : 48 ≤ (c.toNat : Int) := of_decide_eq_true hs5
      refine AtL.move (.inr ⟨_, _, _, rfl, rfl, rfl, rfl⟩) rfl rfl ?_
      refine AtL.leq (.inr ⟨_, _, _, rfl, rfl, rfl, rfl⟩) rfl rfl rfl ?_
      refine AtL.pickT (.inl rfl) rfl rfl rfl ?_
      exact J _ (by exact ⟨(boolIs (by clear J; first | (simp [hs5]; done) | (simp_all; done) | grind)), trivial⟩)
    · intro hs5
      have hs5 : ¬ (48 ≤ (c.toNat : Int)) := of_decide_eq_false hs5
      refine AtL.skipped rfl rfl rfl rfl rfl rfl ?_
      refine AtL.skipped rfl rfl rfl rfl rfl rfl ?_
      refine AtL.pickF (.inl rfl) rfl rfl rfl ?_
      exact J _ (by exact ⟨(boolIs (by clear J; first | (simp [hs5]; done) | (simp_all; done) | grind)), trivial⟩)
  · skip
    refine AtL.assign (.inl rfl) rfl rfl ?_
    refine AtL.done ?_
    exact At.ret Tryz.func142 rfl rfl (⟨congrArg Value.bool (decide_eq_decide.2 (by omega)), rfl⟩)

set_option maxHeartbeats 400000 in
theorem blank_ok {w0 : World} {base : Nat} {H : List Seg} (c : UInt8) :
    SCalls Tryz.prog 150 [.int .u8 (c.toNat : Int)] w0 base (H) (fun v H' => v = .bool (decide ((c.toNat : Int) = 9 ∨ (c.toNat : Int) = 32)) ∧ H' = H) := by
  refine SCalls.of_walk (n := 9) Tryz.func150 rfl rfl rfl fun cs => ?_
  refine At.seq ?_
  refine At.region ?_
  refine AtL.assign (.inl rfl) rfl rfl ?_
  refine AtL.done ?_
  refine At.seq ?_
  refine At.region ?_
  refine AtL.move (.inl rfl) rfl rfl ?_
  refine AtL.eqi (.inl rfl) rfl rfl rfl ?_
  refine AtL.move (.inl rfl) rfl rfl ?_
  refine AtL.join 3 (E' := [(8, .bool (decide (((c.toNat : Int) = 9) ∨ ((c.toNat : Int) = 32))))]) (H' := H) (fun J => ?_) ?_
  · refine AtL.split (t := 5) rfl ?_ ?_
    · intro hs5
      have hs5 : (c.toNat : Int) = 9 := of_decide_eq_true hs5
      refine AtL.skipped rfl rfl rfl rfl rfl rfl ?_
      refine AtL.skipped rfl rfl rfl rfl rfl rfl ?_
      refine AtL.pickT (.inl rfl) rfl rfl rfl ?_
      exact J _ (by exact ⟨(boolIs (by clear J; first | (simp [hs5]; done) | (simp_all; done) | grind)), trivial⟩)
    · intro hs5
      have hs5 : ¬ ((c.toNat : Int) = 9) := of_decide_eq_false hs5
      refine AtL.move (.inr ⟨_, _, _, rfl, rfl, rfl, rfl⟩) rfl rfl ?_
      refine AtL.eqi (.inr ⟨_, _, _, rfl, rfl, rfl, rfl⟩) rfl rfl rfl ?_
      refine AtL.pickF (.inl rfl) rfl rfl rfl ?_
      exact J _ (by exact ⟨(boolIs (by clear J; first | (simp [hs5]; done) | (simp_all; done) | grind)), trivial⟩)
  · skip
    refine AtL.assign (.inl rfl) rfl rfl ?_
    refine AtL.done ?_
    exact At.ret Tryz.func150 rfl rfl (⟨congrArg Value.bool (decide_eq_decide.2 (by omega)), rfl⟩)

def tgtCh (c : UInt8) : Bool := decide (33 ≤ c.toNat ∧ c.toNat ≤ 126)
theorem tgtCh_yes {c : UInt8} (h : ¬ ((c.toNat : Int) < 33 ∨ 126 < (c.toNat : Int))) : tgtCh c = true := decide_eq_true (by omega)
theorem tgtCh_no {c : UInt8} (h : (c.toNat : Int) < 33 ∨ 126 < (c.toNat : Int)) : tgtCh c = false := decide_eq_false (by omega)
theorem targetF_all (l : List UInt8) : targetF l = (decide (l.head? = some 47) && l.all tgtCh) := rfl
theorem head_47 (l : List UInt8) : (l.head? = some 47) ↔ (l ≠ [] ∧ ((l.getD 0 0).toNat : Int) = 47) := by
  cases l with
  | nil => simp
  | cons c l =>
    simp only [List.head?_cons, Option.some.injEq, ne_eq, reduceCtorEq, not_false_eq_true, true_and]
    exact (u8_eq (c := c) (n := 47) (by omega)).symm
theorem valCh_yes {c : UInt8} (h : ¬ (¬ (c.toNat : Int) = 9 ∧ ((c.toNat : Int) < 32 ∨ (c.toNat : Int) = 127))) : valCh c = true := by
  have h9 := u8_eq (c := c) (n := 9) (by omega)
  have h127 := u8_eq (c := c) (n := 127) (by omega)
  have hlt : c < 32 ↔ (c.toNat : Int) < 32 := by
    constructor
    · intro h; have : c.toNat < 32 := h; omega
    · intro h; show c.toNat < 32; omega
  simp only [valCh, Bool.and_eq_true, Bool.not_eq_true', Bool.and_eq_false_iff, decide_eq_false_iff_not, decide_eq_true_eq, ne_eq, Decidable.not_not, hlt]
  by_cases h1 : (c.toNat : Int) = 9
  · have : c = 9 := h9.1 h1
    subst this; exact ⟨.inl rfl, by decide⟩
  · refine ⟨.inr (fun h2 => h ⟨h1, .inl h2⟩), fun h2 => h ⟨h1, .inr (h127.2 h2)⟩⟩
theorem valCh_no {c : UInt8} (h : ¬ (c.toNat : Int) = 9 ∧ ((c.toNat : Int) < 32 ∨ (c.toNat : Int) = 127)) : valCh c = false := by
  have h9 := u8_eq (c := c) (n := 9) (by omega)
  have h127 := u8_eq (c := c) (n := 127) (by omega)
  have hlt : c < 32 ↔ (c.toNat : Int) < 32 := by
    constructor
    · intro h; have : c.toNat < 32 := h; omega
    · intro h; show c.toNat < 32; omega
  have h1 : ¬ c = 9 := fun h2 => h.1 (h9.2 h2)
  rcases h.2 with h2 | h2
  · simp only [valCh, ne_eq, h1, not_false_eq_true, decide_true, hlt.2 h2, Bool.and_self, Bool.not_true, Bool.false_and]
  · have : c = 127 := h127.1 h2
    subst this; decide
theorem valueF_is (l : List UInt8) (h : l.all valCh = true) : valueF l = decide (l = [] ∨ (¬ (((l.getD 0 0).toNat : Int) = 9 ∨ ((l.getD 0 0).toNat : Int) = 32) ∧ ¬ (((l.getD (Int.toNat ((l.length : Int) - 1)) 0).toNat : Int) = 9 ∨ ((l.getD (Int.toNat ((l.length : Int) - 1)) 0).toNat : Int) = 32))) := by
  have key : ∀ c : UInt8, blankF c = false ↔ ¬ ((c.toNat : Int) = 9 ∨ (c.toNat : Int) = 32) := by
    intro c
    have h9 := u8_eq (c := c) (n := 9) (by omega)
    have h32 := u8_eq (c := c) (n := 32) (by omega)
    simp only [blankF, Bool.or_eq_false_iff, decide_eq_false_iff_not, not_or]
    exact and_congr (not_congr h9.symm) (not_congr h32.symm)
  rw [show Int.toNat ((l.length : Int) - 1) = l.length - 1 by omega, valueF, h, Bool.true_and]
  exact decide_eq_decide.2 ((trim_same l).trans (by rw [key, key]))

set_option maxHeartbeats 400000 in
theorem target_ok {w0 : World} {base : Nat} {H : List Seg} {l : List UInt8} (hl : l.length ≤ 140737488355000) :
    SCalls Tryz.prog 101 [str l] w0 base (H) (fun v H' => v = .bool (targetF l) ∧ H' = H) := by
  refine SCalls.of_walk (n := 26) Tryz.func101 rfl rfl rfl fun cs => ?_
  refine At.seq ?_
  refine At.region ?_
  refine AtL.assign (.inl rfl) rfl rfl ?_
  refine AtL.done ?_
  refine At.seq ?_
  refine At.seq ?_
  refine At.region ?_
  refine AtL.move (.inl rfl) rfl rfl ?_
  refine AtL.bytesOf (l := l) Tryz.underlying9 Tryz.underlying22 Tryz.underlying5 (by first | omega | (simp only [List.length_append, List.length_cons, List.length_nil]; omega) | (simp; done) | (simp; omega)) (.inl rfl) rfl rfl ?_
  intro A1 C2 s3 n5 o4
  refine AtL.lenL Tryz.underlying22 (.inl rfl) rfl rfl ?_
  refine AtL.move (.inl rfl) rfl rfl ?_
  refine AtL.done ?_
  refine At.block ?_
  refine At.loop (fun (k : Nat) => [(0, str l), (6, .slice A1 l.length C2), (7, .int .i64 (l.length : Int)), (8, .int .i64 (k : Int))]) (fun (k : Nat) => s3 :: H) (fun (k : Nat) => k ≤ l.length ∧ (l.take k).all tgtCh = true) (fun (k : Nat) => l.length - k) 0 (⟨Nat.zero_le _, rfl⟩) ⟨rfl, rfl, rfl, rfl, trivial⟩ rfl ?_
  rintro k ⟨hk, ha⟩ ihL1
  refine At.seq ?_
  refine At.region ?_
  refine AtL.lss (.inl rfl) rfl rfl rfl ?_
  refine AtL.done ?_
  refine At.seq ?_
  refine At.cond rfl ?_ ?_
  · intro hc1
    have hc1 : (k : Int) < (l.length : Int) := of_decide_eq_true hc1
    refine At.skip ?_
    refine At.seq ?_
    refine At.block ?_
    refine At.seq ?_
    refine At.region ?_
    refine AtL.indexL k (o4.rd (i := 0) rfl) Tryz.underlying22 tf_sz5 (.inl rfl) rfl rfl rfl rfl (by omega) ?_
    refine AtL.load (v := .int .u8 ((l.getD k 0).toNat : Int)) tf_flat5 (.inl rfl) rfl rfl (Rd.cell0 (o4.rd (i := 0) rfl) (getD_some 0 (by omega)) rfl) ?_
    refine AtL.assign (.inl rfl) rfl rfl ?_
    refine AtL.done ?_
    refine At.seq ?_
    refine At.region ?_
    refine AtL.move (.inl rfl) rfl rfl ?_
    refine AtL.lss (.inl rfl) rfl rfl rfl ?_
    refine AtL.move (.inl rfl) rfl rfl ?_
    refine AtL.join 3 (E' := [(17, .bool (decide ((((l.getD k 0).toNat : Int) < 33) ∨ (126 < ((l.getD k 0).toNat : Int))))), (0, str l), (6, .slice A1 l.length C2), (7, .int .i64 (l.length : Int)), (8, .int .i64 (k : Int))]) (H' := s3 :: H) (fun J => ?_) ?_
    · refine AtL.split (t := 14) rfl ?_ ?_
      · intro hs14
        have hs14 : ((l.getD k 0).toNat : Int) < 33 := of_decide_eq_true hs14
        refine AtL.skipped rfl rfl rfl rfl rfl rfl ?_
        refine AtL.skipped rfl rfl rfl rfl rfl rfl ?_
        refine AtL.pickT (.inl rfl) rfl rfl rfl ?_
        exact J _ (by exact ⟨(boolIs (by clear J; first | (simp [hs14]; done) | (simp_all; done) | grind)), rfl, rfl, rfl, rfl, trivial⟩)
      · intro hs14
        have hs14 : ¬ (((l.getD k 0).toNat : Int) < 33) := of_decide_eq_false hs14
        refine AtL.move (.inr ⟨_, _, _, rfl, rfl, rfl, rfl⟩) rfl rfl ?_
        refine AtL.gtr (.inr ⟨_, _, _, rfl, rfl, rfl, rfl⟩) rfl rfl rfl ?_
        refine AtL.pickF (.inl rfl) rfl rfl rfl ?_
        exact J _ (by exact ⟨(boolIs (by clear J; first | (simp [hs14]; done) | (simp_all; done) | grind)), rfl, rfl, rfl, rfl, trivial⟩)
    · skip
      refine AtL.done ?_
      refine At.cond rfl ?_ ?_
      · intro hc2
        have hc2 : (((l.getD k 0).toNat : Int) < 33) ∨ (126 < ((l.getD k 0).toNat : Int)) := of_decide_eq_true hc2
        refine At.seq ?_
        refine At.region ?_
        refine AtL.assign (.inl rfl) rfl rfl ?_
        refine AtL.done ?_
        refine At.pick (H' := H) [] 1 rfl rfl ?_
        exact At.ret Tryz.func101 rfl rfl (⟨congrArg Value.bool (by rw [targetF_all, all_bad (by omega) (tgtCh_no hc2), Bool.and_false]), rfl⟩)
      · intro hc2
        have hc2 : ¬ ((((l.getD k 0).toNat : Int) < 33) ∨ (126 < ((l.getD k 0).toNat : Int))) := of_decide_eq_false hc2
        refine At.skip ?_
        refine At.inBlock ?_
        refine At.region ?_
        refine AtL.add (z := (k : Int) + 1) (.inl rfl) rfl rfl rfl (w64 (by omega) (by omega)) ?_
        refine AtL.move (.inl rfl) rfl rfl ?_
        refine AtL.done ?_
        refine ihL1 (k + 1) (⟨by omega, all_step (by omega) ha (tgtCh_yes hc2)⟩) (by omega) _ ?_
        exact ⟨rfl, rfl, rfl, (by first | rfl | exact slLen (by simp []) | exact intEq (by omega) | exact intEq (by simp []) | exact slLen (by simp []; omega)), trivial⟩
  · intro hc1
    have hc1 : ¬ ((k : Int) < (l.length : Int)) := of_decide_eq_false hc1
    refine At.exit rfl ?_
    refine At.seq ?_
    refine At.region ?_
    refine AtL.move (.inl rfl) rfl rfl ?_
    refine AtL.nes (a := l) (b := []) (.inl rfl) rfl rfl rfl ?_
    refine AtL.move (.inl rfl) rfl rfl ?_
    refine AtL.join 4 (E' := [(25, .bool (decide ((¬ (l = [])) ∧ (((l.getD 0 0).toNat : Int) = 47))))]) (H' := s3 :: H) (fun J => ?_) ?_
    · refine AtL.split (t := 21) rfl ?_ ?_
      · intro hs21
        have hs21 : ¬ (l = []) := of_decide_eq_false (bnot_true hs21)
        have hpos := List.length_pos_iff.2 hs21
        refine AtL.move (.inr ⟨_, _, _, rfl, rfl, rfl, rfl⟩) rfl rfl ?_
        refine AtL.indexS (l := l) 0 rfl (by omega) Tryz.underlying9 (.inr ⟨_, _, _, rfl, rfl, rfl, rfl⟩) rfl rfl rfl ?_
        refine AtL.eqi (.inr ⟨_, _, _, rfl, rfl, rfl, rfl⟩) rfl rfl rfl ?_
        refine AtL.pickT (.inl rfl) rfl rfl rfl ?_
        exact J _ (by exact ⟨(boolIs (by clear J; first | (simp [hs21]; done) | (simp_all; done) | grind)), trivial⟩)
      · intro hs21
        have hs21 : l = [] := of_decide_eq_true (bnot_false hs21)
        refine AtL.skipped rfl rfl rfl rfl rfl rfl ?_
        refine AtL.skipped rfl rfl rfl rfl rfl rfl ?_
        refine AtL.skipped rfl rfl rfl rfl rfl rfl ?_
        refine AtL.pickF (.inl rfl) rfl rfl rfl ?_
        exact J _ (by exact ⟨(boolIs (by clear J; first | (simp [hs21]; done) | (simp_all; done) | grind)), trivial⟩)
    · skip
      refine AtL.assign (.inl rfl) rfl rfl ?_
      refine AtL.done ?_
      refine At.pick (H' := H) [] 1 rfl rfl ?_
      exact At.ret Tryz.func101 rfl rfl (⟨congrArg Value.bool (by rw [targetF_all, all_end (by omega) ha, Bool.and_true]; exact decide_eq_decide.2 (head_47 l).symm), rfl⟩)

set_option maxHeartbeats 400000 in
theorem value_ok {w0 : World} {base : Nat} {H : List Seg} {l : List UInt8} (hl : l.length ≤ 140737488355000) :
    SCalls Tryz.prog 103 [str l] w0 base (H) (fun v H' => v = .bool (valueF l) ∧ H' = H) := by
  refine SCalls.of_walk (n := 40) Tryz.func103 rfl rfl rfl fun cs => ?_
  refine At.seq ?_
  refine At.region ?_
  refine AtL.assign (.inl rfl) rfl rfl ?_
  refine AtL.done ?_
  refine At.seq ?_
  refine At.seq ?_
  refine At.region ?_
  refine AtL.move (.inl rfl) rfl rfl ?_
  refine AtL.bytesOf (l := l) Tryz.underlying9 Tryz.underlying22 Tryz.underlying5 (by first | omega | (simp only [List.length_append, List.length_cons, List.length_nil]; omega) | (simp; done) | (simp; omega)) (.inl rfl) rfl rfl ?_
  intro A1 C2 s3 n5 o4
  refine AtL.lenL Tryz.underlying22 (.inl rfl) rfl rfl ?_
  refine AtL.move (.inl rfl) rfl rfl ?_
  refine AtL.done ?_
  refine At.block ?_
  refine At.loop (fun (k : Nat) => [(0, str l), (6, .slice A1 l.length C2), (7, .int .i64 (l.length : Int)), (8, .int .i64 (k : Int))]) (fun (k : Nat) => s3 :: H) (fun (k : Nat) => k ≤ l.length ∧ (l.take k).all valCh = true) (fun (k : Nat) => l.length - k) 0 (⟨Nat.zero_le _, rfl⟩) ⟨rfl, rfl, rfl, rfl, trivial⟩ rfl ?_
  rintro k ⟨hk, ha⟩ ihL1
  refine At.seq ?_
  refine At.region ?_
  refine AtL.lss (.inl rfl) rfl rfl rfl ?_
  refine AtL.done ?_
  refine At.seq ?_
  refine At.cond rfl ?_ ?_
  · intro hc1
    have hc1 : (k : Int) < (l.length : Int) := of_decide_eq_true hc1
    refine At.skip ?_
    refine At.seq ?_
    refine At.block ?_
    refine At.seq ?_
    refine At.region ?_
    refine AtL.indexL k (o4.rd (i := 0) rfl) Tryz.underlying22 tf_sz5 (.inl rfl) rfl rfl rfl rfl (by omega) ?_
    refine AtL.load (v := .int .u8 ((l.getD k 0).toNat : Int)) tf_flat5 (.inl rfl) rfl rfl (Rd.cell0 (o4.rd (i := 0) rfl) (getD_some 0 (by omega)) rfl) ?_
    refine AtL.assign (.inl rfl) rfl rfl ?_
    refine AtL.done ?_
    refine At.seq ?_
    refine At.region ?_
    refine AtL.move (.inl rfl) rfl rfl ?_
    refine AtL.nei (.inl rfl) rfl rfl rfl ?_
    refine AtL.move (.inl rfl) rfl rfl ?_
    refine AtL.join 7 (E' := [(21, .bool (decide ((¬ (((l.getD k 0).toNat : Int) = 9)) ∧ ((((l.getD k 0).toNat : Int) < 32) ∨ (((l.getD k 0).toNat : Int) = 127))))), (0, str l), (6, .slice A1 l.length C2), (7, .int .i64 (l.length : Int)), (8, .int .i64 (k : Int))]) (H' := s3 :: H) (fun J => ?_) ?_
    · refine AtL.split (t := 14) rfl ?_ ?_
      · intro hs14
        have hs14 : ¬ (((l.getD k 0).toNat : Int) = 9) := of_decide_eq_false (bnot_true hs14)
        refine AtL.move (.inr ⟨_, _, _, rfl, rfl, rfl, rfl⟩) rfl rfl ?_
        refine AtL.lss (.inr ⟨_, _, _, rfl, rfl, rfl, rfl⟩) rfl rfl rfl ?_
        refine AtL.move (.inr ⟨_, _, _, rfl, rfl, rfl, rfl⟩) rfl rfl ?_
        refine AtL.join 3 (E' := [(20, .bool (decide ((((l.getD k 0).toNat : Int) < 32) ∨ (((l.getD k 0).toNat : Int) = 127)))), (0, str l), (6, .slice A1 l.length C2), (7, .int .i64 (l.length : Int)), (8, .int .i64 (k : Int)), (14, .bool true)]) (H' := s3 :: H) (fun J => ?_) ?_
        · refine AtL.split (t := 17) rfl ?_ ?_
          · intro hs17
            have hs17 : ((l.getD k 0).toNat : Int) < 32 := of_decide_eq_true hs17
            refine AtL.skipped rfl rfl rfl rfl rfl rfl ?_
            refine AtL.skipped rfl rfl rfl rfl rfl rfl ?_
            refine AtL.pickT (.inr ⟨_, _, _, rfl, rfl, rfl, rfl⟩) rfl rfl rfl ?_
            exact J _ (by exact ⟨(boolIs (by clear J; first | (simp [hs17]; done) | (simp_all; done) | grind)), rfl, rfl, rfl, rfl, rfl, trivial⟩)
          · intro hs17
            have hs17 : ¬ (((l.getD k 0).toNat : Int) < 32) := of_decide_eq_false hs17
            refine AtL.move (.inr ⟨_, _, _, rfl, rfl, rfl, rfl⟩) rfl rfl ?_
            refine AtL.eqi (.inr ⟨_, _, _, rfl, rfl, rfl, rfl⟩) rfl rfl rfl ?_
            refine AtL.pickF (.inr ⟨_, _, _, rfl, rfl, rfl, rfl⟩) rfl rfl rfl ?_
            exact J _ (by exact ⟨(boolIs (by clear J; first | (simp [hs17]; done) | (simp_all; done) | grind)), rfl, rfl, rfl, rfl, rfl, trivial⟩)
        · skip
          refine AtL.pickT (.inl rfl) rfl rfl rfl ?_
          exact J _ (by exact ⟨(boolIs (by clear J; first | (simp [hs14]; done) | (simp_all; done) | grind)), rfl, rfl, rfl, rfl, trivial⟩)
      · intro hs14
        have hs14 : ((l.getD k 0).toNat : Int) = 9 := of_decide_eq_true (bnot_false hs14)
        refine AtL.skipped rfl rfl rfl rfl rfl rfl ?_
        refine AtL.skipped rfl rfl rfl rfl rfl rfl ?_
        refine AtL.skipped rfl rfl rfl rfl rfl rfl ?_
        refine AtL.skippedU rfl rfl rfl rfl rfl ?_
        refine AtL.skippedU rfl rfl rfl rfl rfl ?_
        refine AtL.skipped rfl rfl rfl rfl rfl rfl ?_
        refine AtL.pickF (.inl rfl) rfl rfl rfl ?_
        exact J _ (by exact ⟨(boolIs (by clear J; first | (simp [hs14]; done) | (simp_all; done) | grind)), rfl, rfl, rfl, rfl, trivial⟩)
    · skip
      refine AtL.done ?_
      refine At.cond rfl ?_ ?_
      · intro hc2
        have hc2 : (¬ (((l.getD k 0).toNat : Int) = 9)) ∧ ((((l.getD k 0).toNat : Int) < 32) ∨ (((l.getD k 0).toNat : Int) = 127)) := of_decide_eq_true hc2
        refine At.seq ?_
        refine At.region ?_
        refine AtL.assign (.inl rfl) rfl rfl ?_
        refine AtL.done ?_
        refine At.pick (H' := H) [] 1 rfl rfl ?_
        exact At.ret Tryz.func103 rfl rfl (⟨congrArg Value.bool (by rw [valueF, all_bad (by omega) (valCh_no hc2), Bool.false_and]), rfl⟩)
      · intro hc2
        have hc2 : ¬ ((¬ (((l.getD k 0).toNat : Int) = 9)) ∧ ((((l.getD k 0).toNat : Int) < 32) ∨ (((l.getD k 0).toNat : Int) = 127))) := of_decide_eq_false hc2
        refine At.skip ?_
        refine At.inBlock ?_
        refine At.region ?_
        refine AtL.add (z := (k : Int) + 1) (.inl rfl) rfl rfl rfl (w64 (by omega) (by omega)) ?_
        refine AtL.move (.inl rfl) rfl rfl ?_
        refine AtL.done ?_
        refine ihL1 (k + 1) (⟨by omega, all_step (by omega) ha (valCh_yes hc2)⟩) (by omega) _ ?_
        exact ⟨rfl, rfl, rfl, (by first | rfl | exact slLen (by simp []) | exact intEq (by omega) | exact intEq (by simp []) | exact slLen (by simp []; omega)), trivial⟩
  · intro hc1
    have hc1 : ¬ ((k : Int) < (l.length : Int)) := of_decide_eq_false hc1
    refine At.exit rfl ?_
    refine At.seq ?_
    refine At.region ?_
    refine AtL.move (.inl rfl) rfl rfl ?_
    refine AtL.eqs (a := l) (b := []) (.inl rfl) rfl rfl rfl ?_
    refine AtL.move (.inl rfl) rfl rfl ?_
    refine AtL.join 14 (E' := [(39, .bool (decide ((l = []) ∨ ((¬ (((l.getD 0 0).toNat : Int) = 9 ∨ ((l.getD 0 0).toNat : Int) = 32)) ∧ (¬ (((l.getD (Int.toNat ((l.length : Int) - 1)) 0).toNat : Int) = 9 ∨ ((l.getD (Int.toNat ((l.length : Int) - 1)) 0).toNat : Int) = 32))))))]) (H' := s3 :: H) (fun J => ?_) ?_
    · refine AtL.split (t := 25) rfl ?_ ?_
      · intro hs25
        have hs25 : l = [] := of_decide_eq_true hs25
        refine AtL.skipped rfl rfl rfl rfl rfl rfl ?_
        refine AtL.skipped rfl rfl rfl rfl rfl rfl ?_
        refine AtL.skipped rfl rfl rfl rfl rfl rfl ?_
        refine AtL.skipped rfl rfl rfl rfl rfl rfl ?_
        refine AtL.skipped rfl rfl rfl rfl rfl rfl ?_
        refine AtL.skippedU rfl rfl rfl rfl rfl ?_
        refine AtL.skippedU rfl rfl rfl rfl rfl ?_
        refine AtL.skippedU rfl rfl rfl rfl rfl ?_
        refine AtL.skippedU rfl rfl rfl rfl rfl ?_
        refine AtL.skippedU rfl rfl rfl rfl rfl ?_
        refine AtL.skippedU rfl rfl rfl rfl rfl ?_
        refine AtL.skippedU rfl rfl rfl rfl rfl ?_
        refine AtL.skipped rfl rfl rfl rfl rfl rfl ?_
        refine AtL.pickT (.inl rfl) rfl rfl rfl ?_
        exact J _ (by exact ⟨(boolIs (by clear J; first | (simp [hs25]; done) | (simp_all; done) | grind)), trivial⟩)
      · intro hs25
        have hs25 : ¬ (l = []) := of_decide_eq_false hs25
        have hpos := List.length_pos_iff.2 hs25
        refine AtL.move (.inr ⟨_, _, _, rfl, rfl, rfl, rfl⟩) rfl rfl ?_
        refine AtL.indexS (l := l) 0 rfl (by omega) Tryz.underlying9 (.inr ⟨_, _, _, rfl, rfl, rfl, rfl⟩) rfl rfl rfl ?_
        refine AtL.call tf_body150 (.inr ⟨_, _, _, rfl, rfl, rfl, rfl⟩) rfl rfl (blank_ok (l.getD 0 0)) ?_
        rintro _ _ ⟨rfl, rfl⟩
        refine AtL.not (.inr ⟨_, _, _, rfl, rfl, rfl, rfl⟩) rfl rfl ?_
        refine AtL.move (.inr ⟨_, _, _, rfl, rfl, rfl, rfl⟩) rfl rfl ?_
        refine AtL.join 8 (E' := [(38, .bool (decide ((¬ (((l.getD 0 0).toNat : Int) = 9 ∨ ((l.getD 0 0).toNat : Int) = 32)) ∧ (¬ (((l.getD (Int.toNat ((l.length : Int) - 1)) 0).toNat : Int) = 9 ∨ ((l.getD (Int.toNat ((l.length : Int) - 1)) 0).toNat : Int) = 32))))), (25, .bool false)]) (H' := s3 :: H) (fun J => ?_) ?_
        · refine AtL.split (t := 30) rfl ?_ ?_
          · intro hs30
            have hs30 : ¬ (((l.getD 0 0).toNat : Int) = 9 ∨ ((l.getD 0 0).toNat : Int) = 32) := of_decide_eq_false (bnot_true hs30)
            refine AtL.move (.inr ⟨_, _, _, rfl, rfl, rfl, rfl⟩) rfl rfl ?_
            refine AtL.move (.inr ⟨_, _, _, rfl, rfl, rfl, rfl⟩) rfl rfl ?_
            refine AtL.lenS (l := l) Tryz.underlying9 (.inr ⟨_, _, _, rfl, rfl, rfl, rfl⟩) rfl rfl ?_
            refine AtL.sub (z := (l.length : Int) - 1) (.inr ⟨_, _, _, rfl, rfl, rfl, rfl⟩) rfl rfl rfl (w64 (by omega) (by omega)) ?_
            refine AtL.indexS (l := l) (Int.toNat ((l.length : Int) - 1)) (by omega) (by omega) Tryz.underlying9 (.inr ⟨_, _, _, rfl, rfl, rfl, rfl⟩) rfl rfl rfl ?_
            refine AtL.call tf_body150 (.inr ⟨_, _, _, rfl, rfl, rfl, rfl⟩) rfl rfl (blank_ok (l.getD (Int.toNat ((l.length : Int) - 1)) 0)) ?_
            rintro _ _ ⟨rfl, rfl⟩
            refine AtL.not (.inr ⟨_, _, _, rfl, rfl, rfl, rfl⟩) rfl rfl ?_
            refine AtL.pickT (.inr ⟨_, _, _, rfl, rfl, rfl, rfl⟩) rfl rfl rfl ?_
            exact J _ (by exact ⟨(boolIs (by clear J; first | (simp [hs30]; done) | (simp_all; done) | grind)), rfl, trivial⟩)
          · intro hs30
            have hs30 : ((l.getD 0 0).toNat : Int) = 9 ∨ ((l.getD 0 0).toNat : Int) = 32 := of_decide_eq_true (bnot_false hs30)
            refine AtL.skipped rfl rfl rfl rfl rfl rfl ?_
            refine AtL.skipped rfl rfl rfl rfl rfl rfl ?_
            refine AtL.skipped rfl rfl rfl rfl rfl rfl ?_
            refine AtL.skipped rfl rfl rfl rfl rfl rfl ?_
            refine AtL.skipped rfl rfl rfl rfl rfl rfl ?_
            refine AtL.skipped rfl rfl rfl rfl rfl rfl ?_
            refine AtL.skipped rfl rfl rfl rfl rfl rfl ?_
            refine AtL.pickF (.inr ⟨_, _, _, rfl, rfl, rfl, rfl⟩) rfl rfl rfl ?_
            exact J _ (by exact ⟨(boolIs (by clear J; first | (simp [hs30]; done) | (simp_all; done) | grind)), rfl, trivial⟩)
        · skip
          refine AtL.pickF (.inl rfl) rfl rfl rfl ?_
          exact J _ (by exact ⟨(boolIs (by clear J; first | (simp [hs25]; done) | (simp_all; done) | grind)), trivial⟩)
    · skip
      refine AtL.assign (.inl rfl) rfl rfl ?_
      refine AtL.done ?_
      refine At.pick (H' := H) [] 1 rfl rfl ?_
      exact At.ret Tryz.func103 rfl rfl (⟨congrArg Value.bool (by rw [valueF_is l (all_end (by omega) ha)]), rfl⟩)

/-- Which bytes are among some, as an array. -/
def letA (l : List UInt8) : List Bool := (List.range 256).map fun i => l.contains (UInt8.ofNat i)
theorem letA_len (l : List UInt8) : (letA l).length = 256 := by simp [letA]
theorem letA_nil : List.replicate 256 false = letA [] := by
  apply List.ext_getElem (by rw [letA_len, List.length_replicate])
  intro i h1 h2
  rw [List.getElem_replicate]
  simp only [letA, List.getElem_map]
  rfl
theorem letA_get (l : List UInt8) (c : UInt8) : (letA l).getD c.toNat false = l.contains c := by
  have h := c.toNat_lt
  simp [letA, List.getD, h, UInt8.ofNat_toNat]
theorem letA_set (l : List UInt8) (c : UInt8) : (letA l).set c.toNat true = letA (l ++ [c]) := by
  apply List.ext_getElem (by simp [letA])
  intro i h1 h2
  have hi : i < 256 := by simpa [letA] using h2
  rw [List.getElem_set]
  by_cases h : c.toNat = i
  · subst h
    simp [letA, UInt8.ofNat_toNat]
  · have hne : ¬ (UInt8.ofNat i = c) := by
      intro h3; apply h; rw [← h3, UInt8.toNat_ofNat_of_lt' hi]
    simp [letA, h, hne]

set_option maxHeartbeats 400000 in
theorem letters_ok {w0 : World} {base : Nat} {H : List Seg} {l : List UInt8} (hl : l.length ≤ 140737488355000) :
    SCalls Tryz.prog 141 [str l] w0 base (H) (fun v H' => v = .agg (tyBool.cells (letA l)).toArray ∧ H' = H) := by
  refine SCalls.of_walk (n := 16) Tryz.func141 rfl rfl rfl fun cs => ?_
  refine At.seq ?_
  refine At.region ?_
  refine AtL.allocArr tyBool (l := List.replicate 256 false) tf_zero179 tf_zarr179 (by simp) (.inl rfl) rfl ?_
  intro b1 s2 o3
  rw [List.length_replicate] at o3
  refine AtL.done ?_
  refine At.seq ?_
  refine At.seq ?_
  refine At.region ?_
  refine AtL.move (.inl rfl) rfl rfl ?_
  refine AtL.bytesOf (l := l) Tryz.underlying9 Tryz.underlying22 Tryz.underlying5 (by first | omega | (simp only [List.length_append, List.length_cons, List.length_nil]; omega) | (simp; done) | (simp; omega)) (.inl rfl) rfl rfl ?_
  intro A4 C5 s6 n8 o7
  refine AtL.lenL Tryz.underlying22 (.inl rfl) rfl rfl ?_
  refine AtL.move (.inl rfl) rfl rfl ?_
  refine AtL.done ?_
  refine At.block ?_
  refine At.loop2 (fun (k : Nat) (s2 : Seg) => [(2, .pointer (some ⟨b1, 0, none⟩)), (6, .slice A4 l.length C5), (7, .int .i64 (l.length : Int)), (8, .int .i64 (k : Int))]) (fun (k : Nat) (s2 : Seg) => s6 :: s2 :: H) (fun (k : Nat) (s2 : Seg) => k ≤ l.length ∧ Own tyBool 179 (some ⟨b1, 0, none⟩) 256 (letA (l.take k)) s2) (fun (k : Nat) (s2 : Seg) => l.length - k) 0 s2 (⟨Nat.zero_le _, by rw [List.take_zero, ← letA_nil]; exact o3⟩) ⟨rfl, rfl, rfl, rfl, trivial⟩ rfl ?_
  rintro k s2 ⟨hk, ho⟩ ihL1
  have hlen := letA_len (l.take k)
  have hlt := (l.getD k 0).toNat_lt
  have hle := Own.le_cap ho
  refine At.seq ?_
  refine At.region ?_
  refine AtL.lss (.inl rfl) rfl rfl rfl ?_
  refine AtL.done ?_
  refine At.seq ?_
  refine At.cond rfl ?_ ?_
  · intro hc1
    have hc1 : (k : Int) < (l.length : Int) := of_decide_eq_true hc1
    refine At.skip ?_
    refine At.seq ?_
    refine At.block ?_
    refine At.seq ?_
    refine At.region ?_
    refine AtL.indexL k (o7.rd (i := 0) rfl) Tryz.underlying22 tf_sz5 (.inl rfl) rfl rfl rfl rfl (by omega) ?_
    refine AtL.load (v := .int .u8 ((l.getD k 0).toNat : Int)) tf_flat5 (.inl rfl) rfl rfl (Rd.cell0 (o7.rd (i := 0) rfl) (getD_some 0 (by omega)) rfl) ?_
    refine AtL.assign (.inl rfl) rfl rfl ?_
    refine AtL.done ?_
    refine At.region ?_
    refine AtL.move (.inl rfl) rfl rfl ?_
    refine AtL.indexArr ((l.getD k 0).toNat) Tryz.underlying179 tf_sz4 (.inl rfl) rfl rfl rfl rfl (by omega) ?_
    refine AtL.setIdx (u := true) 1 ((l.getD k 0).toNat) tf_sz4 rfl ho (by omega) (.inl rfl) rfl rfl ?_
    intro s9 o10
    refine AtL.done ?_
    refine At.inBlock ?_
    refine At.region ?_
    refine AtL.add (z := (k : Int) + 1) (.inl rfl) rfl rfl rfl (w64 (by omega) (by omega)) ?_
    refine AtL.move (.inl rfl) rfl rfl ?_
    refine AtL.done ?_
    refine ihL1 (k + 1) s9 (⟨by omega, by rw [take_succ_d l k (by omega), ← letA_set]; exact o10⟩) (by omega) _ ?_
    exact ⟨(by first | rfl | exact slLen (by simp []) | exact intEq (by omega) | exact intEq (by simp []) | exact slLen (by simp []; omega)), rfl, rfl, (by first | rfl | exact slLen (by simp []) | exact intEq (by omega) | exact intEq (by simp []) | exact slLen (by simp []; omega)), trivial⟩
  · intro hc1
    have hc1 : ¬ ((k : Int) < (l.length : Int)) := of_decide_eq_false hc1
    refine At.exit rfl ?_
    refine At.seq ?_
    refine At.region ?_
    refine AtL.loadArr (ho.rd (i := 1) rfl) tf_agg179 (by simp [Ty.cells_len, tyBool, letA_len]) (.inl rfl) rfl rfl ?_
    refine AtL.storeArr (T := tyBool) (l' := letA (l.take k)) 1 tf_sz179 rfl ho rfl rfl (by simp [Ty.cells_len, tyBool, letA_len]) (.inl rfl) rfl rfl ?_
    intro s11 o12
    refine AtL.done ?_
    exact At.retMP (vs := [.agg (tyBool.cells (letA (l.take k))).toArray]) (H2 := H) [] 2 rfl rfl Tryz.func141 rfl ⟨⟨_, rfl, LoadsTo.arr (o12.rd (i := 1) rfl) tf_agg179 (by simp [Ty.cells_len, tyBool, letA_len])⟩, trivial⟩ (⟨by rw [List.take_of_length_le (show l.length ≤ k by omega)]; rfl, rfl⟩)

theorem word_no {s : List UInt8} {k : Nat} {most : Int} (hk : k < s.length) (h : (letA LET).getD (s.getD k 0).toNat false = false) : wordF s most = false := by
  rw [letA_get, ← let_eq] at h
  rw [wordF, all_bad hk h, Bool.and_false]
theorem word_yes {s : List UInt8} {most : Int} (h : s.all letterF = true) : wordF s most = decide (¬ s = [] ∧ (s.length : Int) ≤ most) := by
  rw [wordF, h, Bool.and_true]
  apply decide_eq_decide.2
  have := List.length_pos_iff (l := s)
  constructor
  · rintro ⟨h1, h2⟩; exact ⟨this.1 (by omega), h2⟩
  · rintro ⟨h1, h2⟩; exact ⟨this.2 h1, h2⟩

set_option maxHeartbeats 400000 in
theorem word_ok {w0 : World} {base : Nat} {H : List Seg} {l : List UInt8} (hl : l.length ≤ 140737488355000) (most : Int) :
    SCalls Tryz.prog 99 [str l, .int .i64 most] w0 base (H) (fun v H' => v = .bool (wordF l most) ∧ H' = H) := by
  refine SCalls.of_walk (n := 29) Tryz.func99 rfl rfl rfl fun cs => ?_
  refine At.seq ?_
  refine At.region ?_
  refine AtL.assign (.inl rfl) rfl rfl ?_
  refine AtL.done ?_
  refine At.seq ?_
  refine At.region ?_
  refine AtL.call tf_body141 (.inl rfl) rfl rfl (letters_ok (l := LET) (by decide)) ?_
  rintro _ _ ⟨rfl, hHq⟩
  obtain rfl := hHq.symm
  refine AtL.allocArr tyBool (l := List.replicate 256 false) tf_zero179 tf_zarr179 (by simp) (.inl rfl) rfl ?_
  intro b1 s2 o3
  rw [List.length_replicate] at o3
  refine AtL.storeArr (T := tyBool) (l' := letA LET) 0 tf_sz179 rfl o3 (by simp [letA_len]) rfl (by simp [Ty.cells_len, tyBool, letA_len]) (.inl rfl) rfl rfl ?_
  intro s4 o5
  refine AtL.done ?_
  refine At.seq ?_
  refine At.seq ?_
  refine At.region ?_
  refine AtL.move (.inl rfl) rfl rfl ?_
  refine AtL.bytesOf (l := l) Tryz.underlying9 Tryz.underlying22 Tryz.underlying5 (by first | omega | (simp only [List.length_append, List.length_cons, List.length_nil]; omega) | (simp; done) | (simp; omega)) (.inl rfl) rfl rfl ?_
  intro A6 C7 s8 n10 o9
  refine AtL.lenL Tryz.underlying22 (.inl rfl) rfl rfl ?_
  refine AtL.move (.inl rfl) rfl rfl ?_
  refine AtL.done ?_
  refine At.block ?_
  refine At.loop (fun (k : Nat) => [(0, str l), (1, .int .i64 most), (5, .pointer (some ⟨b1, 0, none⟩)), (10, .slice A6 l.length C7), (11, .int .i64 (l.length : Int)), (12, .int .i64 (k : Int))]) (fun (k : Nat) => s8 :: s4 :: H) (fun (k : Nat) => k ≤ l.length ∧ (l.take k).all letterF = true) (fun (k : Nat) => l.length - k) 0 (⟨Nat.zero_le _, rfl⟩) ⟨rfl, rfl, rfl, rfl, rfl, rfl, trivial⟩ rfl ?_
  rintro k ⟨hk, ha⟩ ihL1
  have hlt := (l.getD k 0).toNat_lt
  have hlen := letA_len LET
  refine At.seq ?_
  refine At.region ?_
  refine AtL.lss (.inl rfl) rfl rfl rfl ?_
  refine AtL.done ?_
  refine At.seq ?_
  refine At.cond rfl ?_ ?_
  · intro hc1
    have hc1 : (k : Int) < (l.length : Int) := of_decide_eq_true hc1
    refine At.skip ?_
    refine At.seq ?_
    refine At.block ?_
    refine At.seq ?_
    refine At.region ?_
    refine AtL.indexL k (o9.rd (i := 0) rfl) Tryz.underlying22 tf_sz5 (.inl rfl) rfl rfl rfl rfl (by omega) ?_
    refine AtL.load (v := .int .u8 ((l.getD k 0).toNat : Int)) tf_flat5 (.inl rfl) rfl rfl (Rd.cell0 (o9.rd (i := 0) rfl) (getD_some 0 (by omega)) rfl) ?_
    refine AtL.assign (.inl rfl) rfl rfl ?_
    refine AtL.done ?_
    refine At.seq ?_
    refine At.region ?_
    refine AtL.move (.inl rfl) rfl rfl ?_
    refine AtL.indexArr ((l.getD k 0).toNat) Tryz.underlying179 tf_sz4 (.inl rfl) rfl rfl rfl rfl (by omega) ?_
    refine AtL.load (v := .bool ((letA LET).getD ((l.getD k 0).toNat) false)) tf_flat4 (.inl rfl) rfl rfl (Rd.cell0 (o5.rd (i := 1) rfl) (getD_some false (show (l.getD k 0).toNat < (letA LET).length by omega)) rfl) ?_
    refine AtL.not (.inl rfl) rfl rfl ?_
    refine AtL.done ?_
    refine At.cond rfl ?_ ?_
    · intro hc2
      have hc2 : ((letA LET).getD ((l.getD k 0).toNat) false) = false := bnot_true hc2
      refine At.seq ?_
      refine At.region ?_
      refine AtL.assign (.inl rfl) rfl rfl ?_
      refine AtL.done ?_
      refine At.pick (H' := H) [] 2 rfl rfl ?_
      exact At.ret Tryz.func99 rfl rfl (⟨congrArg Value.bool (by rw [word_no (k := k) (by omega) (by simpa using hc2)]), rfl⟩)
    · intro hc2
      have hc2 : ((letA LET).getD ((l.getD k 0).toNat) false) = true := bnot_false hc2
      refine At.skip ?_
      refine At.inBlock ?_
      refine At.region ?_
      refine AtL.add (z := (k : Int) + 1) (.inl rfl) rfl rfl rfl (w64 (by omega) (by omega)) ?_
      refine AtL.move (.inl rfl) rfl rfl ?_
      refine AtL.done ?_
      refine ihL1 (k + 1) (⟨by omega, all_step (by omega) ha (by rw [let_eq, ← letA_get]; simpa using hc2)⟩) (by omega) _ ?_
      exact ⟨rfl, rfl, rfl, rfl, rfl, (by first | rfl | exact slLen (by simp []) | exact intEq (by omega) | exact intEq (by simp []) | exact slLen (by simp []; omega)), trivial⟩
  · intro hc1
    have hc1 : ¬ ((k : Int) < (l.length : Int)) := of_decide_eq_false hc1
    refine At.exit rfl ?_
    refine At.seq ?_
    refine At.region ?_
    refine AtL.move (.inl rfl) rfl rfl ?_
    refine AtL.nes (a := l) (b := []) (.inl rfl) rfl rfl rfl ?_
    refine AtL.move (.inl rfl) rfl rfl ?_
    refine AtL.join 5 (E' := [(28, .bool (decide ((¬ (l = [])) ∧ ((l.length : Int) ≤ most))))]) (H' := s8 :: s4 :: H) (fun J => ?_) ?_
    · refine AtL.split (t := 23) rfl ?_ ?_
      · intro hs23
        have hs23 : ¬ (l = []) := of_decide_eq_false (bnot_true hs23)
        refine AtL.move (.inr ⟨_, _, _, rfl, rfl, rfl, rfl⟩) rfl rfl ?_
        refine AtL.lenS (l := l) Tryz.underlying9 (.inr ⟨_, _, _, rfl, rfl, rfl, rfl⟩) rfl rfl ?_
        refine AtL.move (.inr ⟨_, _, _, rfl, rfl, rfl, rfl⟩) rfl rfl ?_
        refine AtL.leq (.inr ⟨_, _, _, rfl, rfl, rfl, rfl⟩) rfl rfl rfl ?_
        refine AtL.pickT (.inl rfl) rfl rfl rfl ?_
        exact J _ (by exact ⟨(boolIs (by clear J; first | (simp [hs23]; done) | (simp_all; done) | grind)), trivial⟩)
      · intro hs23
        have hs23 : l = [] := of_decide_eq_true (bnot_false hs23)
        refine AtL.skipped rfl rfl rfl rfl rfl rfl ?_
        refine AtL.skipped rfl rfl rfl rfl rfl rfl ?_
        refine AtL.skipped rfl rfl rfl rfl rfl rfl ?_
        refine AtL.skipped rfl rfl rfl rfl rfl rfl ?_
        refine AtL.pickF (.inl rfl) rfl rfl rfl ?_
        exact J _ (by exact ⟨(boolIs (by clear J; first | (simp [hs23]; done) | (simp_all; done) | grind)), trivial⟩)
    · skip
      refine AtL.assign (.inl rfl) rfl rfl ?_
      refine AtL.done ?_
      refine At.pick (H' := H) [] 2 rfl rfl ?_
      exact At.ret Tryz.func99 rfl rfl (⟨congrArg Value.bool (by rw [word_yes (all_end (by omega) ha)]), rfl⟩)

theorem ver_no {l : List UInt8} (h : ¬ ((l.length : Int) = 8 ∧ subl l 0 5 = [72, 84, 84, 80, 47] ∧ (48 ≤ ((l.getD 5 0).toNat : Int) ∧ ((l.getD 5 0).toNat : Int) ≤ 57) ∧ ((l.getD 6 0).toNat : Int) = 46 ∧ (48 ≤ ((l.getD 7 0).toNat : Int) ∧ ((l.getD 7 0).toNat : Int) ≤ 57))) : verF l = false := by
  rw [← Bool.not_eq_true]
  intro hv
  apply h
  simp only [verF, Bool.and_eq_true, decide_eq_true_eq, UInt8.le_iff_toNat_le] at hv
  obtain ⟨⟨⟨⟨h1, h2⟩, h3⟩, h4⟩, h5⟩ := hv
  have e1 : (48 : UInt8).toNat = 48 := rfl
  have e2 : (57 : UInt8).toNat = 57 := rfl
  rw [e1, e2] at h3 h5
  exact ⟨by omega, by rw [show subl l 0 5 = l.take 5 by simp [subl]]; exact h2, by omega, (u8_eq (c := l.getD 6 0) (n := 46) (by omega)).2 h4, by omega⟩
theorem ver_yes {l : List UInt8} (h1 : (l.length : Int) = 8) (h2 : subl l 0 5 = [72, 84, 84, 80, 47]) (h3 : 48 ≤ ((l.getD 5 0).toNat : Int) ∧ ((l.getD 5 0).toNat : Int) ≤ 57) (h4 : ((l.getD 6 0).toNat : Int) = 46) (h5 : 48 ≤ ((l.getD 7 0).toNat : Int) ∧ ((l.getD 7 0).toNat : Int) ≤ 57) : verF l = true := by
  have e1 : (48 : UInt8).toNat = 48 := rfl
  have e2 : (57 : UInt8).toNat = 57 := rfl
  simp only [verF, Bool.and_eq_true, decide_eq_true_eq, UInt8.le_iff_toNat_le, e1, e2]
  exact ⟨⟨⟨⟨by omega, by rw [show subl l 0 5 = l.take 5 by simp [subl]] at h2; exact h2⟩, by omega⟩, (u8_eq (c := l.getD 6 0) (n := 46) (by omega)).1 h4⟩, by omega⟩
theorem sub48 {c : UInt8} (h : 48 ≤ (c.toNat : Int) ∧ (c.toNat : Int) ≤ 57) : IntKind.u8.wrap ((c.toNat : Int) - 48) = (((c - 48 : UInt8)).toNat : Int) := by
  have h1 : (c - 48).toNat = c.toNat - 48 := by
    rw [UInt8.toNat_sub_of_le]
    · rfl
    · show (48 : UInt8).toNat ≤ c.toNat
      have : (48 : UInt8).toNat = 48 := rfl
      omega
  rw [h1]
  have h2 : ((c.toNat - 48 : Nat) : Int) = (c.toNat : Int) - 48 := by omega
  rw [h2]
  exact w8 (by omega) (by omega)

set_option maxHeartbeats 400000 in
theorem version_ok {w0 : World} {base : Nat} {H : List Seg} {l : List UInt8} (hl : l.length ≤ 140737488355000) :
    SCalls Tryz.prog 100 [str l] w0 base (H) (fun v H' => (verF l = false ∧ v = .tuple #[.int .u8 0, .int .u8 0, .bool false] ∧ H' = H) ∨ (verF l = true ∧ l.length = 8 ∧ v = .tuple #[.int .u8 ((l.getD 5 0 - 48).toNat : Int), .int .u8 ((l.getD 7 0 - 48).toNat : Int), .bool true] ∧ H' = H)) := by
  refine SCalls.of_walk (n := 36) Tryz.func100 rfl rfl rfl fun cs => ?_
  refine At.seq ?_
  refine At.region ?_
  refine AtL.assign (.inl rfl) rfl rfl ?_
  refine AtL.assign (.inl rfl) rfl rfl ?_
  refine AtL.assign (.inl rfl) rfl rfl ?_
  refine AtL.done ?_
  refine At.seq ?_
  refine At.seq ?_
  refine At.region ?_
  refine AtL.move (.inl rfl) rfl rfl ?_
  refine AtL.lenS (l := l) Tryz.underlying9 (.inl rfl) rfl rfl ?_
  refine AtL.nei (.inl rfl) rfl rfl rfl ?_
  refine AtL.move (.inl rfl) rfl rfl ?_
  refine AtL.join 4 (E' := [(12, .bool (decide ((¬ ((l.length : Int) = 8)) ∨ (¬ (subl l 0 5 = [72, 84, 84, 80, 47]))))), (0, str l)]) (H' := H) (fun J => ?_) ?_
  · refine AtL.split (t := 8) rfl ?_ ?_
    · intro hs8
      have hs8 : ¬ ((l.length : Int) = 8) := of_decide_eq_false (bnot_true hs8)
      refine AtL.skipped rfl rfl rfl rfl rfl rfl ?_
      refine AtL.skipped rfl rfl rfl rfl rfl rfl ?_
      refine AtL.skipped rfl rfl rfl rfl rfl rfl ?_
      refine AtL.pickT (.inl rfl) rfl rfl rfl ?_
      exact J _ (by exact ⟨(boolIs (by clear J; first | (simp [hs8]; done) | (simp_all; done) | grind)), rfl, trivial⟩)
    · intro hs8
      have hs8 : (l.length : Int) = 8 := of_decide_eq_true (bnot_false hs8)
      refine AtL.move (.inr ⟨_, _, _, rfl, rfl, rfl, rfl⟩) rfl rfl ?_
      refine AtL.sliceS (l := l) 0 5 rfl (evBound_some rfl rfl) (by omega) (by omega) Tryz.underlying9 (.inr ⟨_, _, _, rfl, rfl, rfl, rfl⟩) rfl rfl ?_
      refine AtL.nes (a := subl l 0 5) (b := [72, 84, 84, 80, 47]) (.inr ⟨_, _, _, rfl, rfl, rfl, rfl⟩) rfl rfl rfl ?_
      refine AtL.pickF (.inl rfl) rfl rfl rfl ?_
      exact J _ (by exact ⟨(boolIs (by clear J; first | (simp [hs8]; done) | (simp_all; done) | grind)), rfl, trivial⟩)
  · skip
    refine AtL.move (.inl rfl) rfl rfl ?_
    refine AtL.join 5 (E' := [(18, .bool (decide (((¬ ((l.length : Int) = 8)) ∨ (¬ (subl l 0 5 = [72, 84, 84, 80, 47]))) ∨ (¬ (48 ≤ ((l.getD 5 0).toNat : Int) ∧ ((l.getD 5 0).toNat : Int) ≤ 57))))), (0, str l)]) (H' := H) (fun J => ?_) ?_
    · refine AtL.split (t := 13) rfl ?_ ?_
      · intro hs13
        have hs13 : (¬ ((l.length : Int) = 8)) ∨ (¬ (subl l 0 5 = [72, 84, 84, 80, 47])) := of_decide_eq_true hs13
        refine AtL.skipped rfl rfl rfl rfl rfl rfl ?_
        refine AtL.skipped rfl rfl rfl rfl rfl rfl ?_
        refine AtL.skipped rfl rfl rfl rfl rfl rfl ?_
        refine AtL.skipped rfl rfl rfl rfl rfl rfl ?_
        refine AtL.pickT (.inl rfl) rfl rfl rfl ?_
        exact J _ (by exact ⟨(boolIs (by clear J; first | (simp [hs13]; done) | (simp_all; done) | grind)), rfl, trivial⟩)
      · intro hs13
        have hs13 : ¬ ((¬ ((l.length : Int) = 8)) ∨ (¬ (subl l 0 5 = [72, 84, 84, 80, 47]))) := of_decide_eq_false hs13
        refine AtL.move (.inr ⟨_, _, _, rfl, rfl, rfl, rfl⟩) rfl rfl ?_
        refine AtL.indexS (l := l) 5 rfl (by omega) Tryz.underlying9 (.inr ⟨_, _, _, rfl, rfl, rfl, rfl⟩) rfl rfl rfl ?_
        refine AtL.call tf_body142 (.inr ⟨_, _, _, rfl, rfl, rfl, rfl⟩) rfl rfl (digit_ok (l.getD 5 0)) ?_
        rintro _ _ ⟨rfl, hHq⟩
        obtain rfl := hHq.symm
        refine AtL.not (.inr ⟨_, _, _, rfl, rfl, rfl, rfl⟩) rfl rfl ?_
        refine AtL.pickF (.inl rfl) rfl rfl rfl ?_
        exact J _ (by exact ⟨(boolIs (by clear J; first | (simp [hs13]; done) | (simp_all; done) | grind)), rfl, trivial⟩)
    · skip
      refine AtL.move (.inl rfl) rfl rfl ?_
      refine AtL.join 4 (E' := [(23, .bool (decide ((((¬ ((l.length : Int) = 8)) ∨ (¬ (subl l 0 5 = [72, 84, 84, 80, 47]))) ∨ (¬ (48 ≤ ((l.getD 5 0).toNat : Int) ∧ ((l.getD 5 0).toNat : Int) ≤ 57))) ∨ (¬ (((l.getD 6 0).toNat : Int) = 46))))), (0, str l)]) (H' := H) (fun J => ?_) ?_
      · refine AtL.split (t := 19) rfl ?_ ?_
        · intro hs19
          have hs19 : ((¬ ((l.length : Int) = 8)) ∨ (¬ (subl l 0 5 = [72, 84, 84, 80, 47]))) ∨ (¬ (48 ≤ ((l.getD 5 0).toNat : Int) ∧ ((l.getD 5 0).toNat : Int) ≤ 57)) := of_decide_eq_true hs19
          refine AtL.skipped rfl rfl rfl rfl rfl rfl ?_
          refine AtL.skipped rfl rfl rfl rfl rfl rfl ?_
          refine AtL.skipped rfl rfl rfl rfl rfl rfl ?_
          refine AtL.pickT (.inl rfl) rfl rfl rfl ?_
          exact J _ (by exact ⟨(boolIs (by clear J; first | (simp [hs19]; done) | (simp_all; done) | grind)), rfl, trivial⟩)
        · intro hs19
          have hs19 : ¬ (((¬ ((l.length : Int) = 8)) ∨ (¬ (subl l 0 5 = [72, 84, 84, 80, 47]))) ∨ (¬ (48 ≤ ((l.getD 5 0).toNat : Int) ∧ ((l.getD 5 0).toNat : Int) ≤ 57))) := of_decide_eq_false hs19
          refine AtL.move (.inr ⟨_, _, _, rfl, rfl, rfl, rfl⟩) rfl rfl ?_
          refine AtL.indexS (l := l) 6 rfl (by omega) Tryz.underlying9 (.inr ⟨_, _, _, rfl, rfl, rfl, rfl⟩) rfl rfl rfl ?_
          refine AtL.nei (.inr ⟨_, _, _, rfl, rfl, rfl, rfl⟩) rfl rfl rfl ?_
          refine AtL.pickF (.inl rfl) rfl rfl rfl ?_
          exact J _ (by exact ⟨(boolIs (by clear J; first | (simp [hs19]; done) | (simp_all; done) | grind)), rfl, trivial⟩)
      · skip
        refine AtL.move (.inl rfl) rfl rfl ?_
        refine AtL.join 5 (E' := [(29, .bool (decide (((((¬ ((l.length : Int) = 8)) ∨ (¬ (subl l 0 5 = [72, 84, 84, 80, 47]))) ∨ (¬ (48 ≤ ((l.getD 5 0).toNat : Int) ∧ ((l.getD 5 0).toNat : Int) ≤ 57))) ∨ (¬ (((l.getD 6 0).toNat : Int) = 46))) ∨ (¬ (48 ≤ ((l.getD 7 0).toNat : Int) ∧ ((l.getD 7 0).toNat : Int) ≤ 57))))), (0, str l)]) (H' := H) (fun J => ?_) ?_
        · refine AtL.split (t := 24) rfl ?_ ?_
          · intro hs24
            have hs24 : (((¬ ((l.length : Int) = 8)) ∨ (¬ (subl l 0 5 = [72, 84, 84, 80, 47]))) ∨ (¬ (48 ≤ ((l.getD 5 0).toNat : Int) ∧ ((l.getD 5 0).toNat : Int) ≤ 57))) ∨ (¬ (((l.getD 6 0).toNat : Int) = 46)) := of_decide_eq_true hs24
            refine AtL.skipped rfl rfl rfl rfl rfl rfl ?_
            refine AtL.skipped rfl rfl rfl rfl rfl rfl ?_
            refine AtL.skipped rfl rfl rfl rfl rfl rfl ?_
            refine AtL.skipped rfl rfl rfl rfl rfl rfl ?_
            refine AtL.pickT (.inl rfl) rfl rfl rfl ?_
            exact J _ (by exact ⟨(boolIs (by clear J; first | (simp [hs24]; done) | (simp_all; done) | grind)), rfl, trivial⟩)
          · intro hs24
            have hs24 : ¬ ((((¬ ((l.length : Int) = 8)) ∨ (¬ (subl l 0 5 = [72, 84, 84, 80, 47]))) ∨ (¬ (48 ≤ ((l.getD 5 0).toNat : Int) ∧ ((l.getD 5 0).toNat : Int) ≤ 57))) ∨ (¬ (((l.getD 6 0).toNat : Int) = 46))) := of_decide_eq_false hs24
            refine AtL.move (.inr ⟨_, _, _, rfl, rfl, rfl, rfl⟩) rfl rfl ?_
            refine AtL.indexS (l := l) 7 rfl (by omega) Tryz.underlying9 (.inr ⟨_, _, _, rfl, rfl, rfl, rfl⟩) rfl rfl rfl ?_
            refine AtL.call tf_body142 (.inr ⟨_, _, _, rfl, rfl, rfl, rfl⟩) rfl rfl (digit_ok (l.getD 7 0)) ?_
            rintro _ _ ⟨rfl, hHq⟩
            obtain rfl := hHq.symm
            refine AtL.not (.inr ⟨_, _, _, rfl, rfl, rfl, rfl⟩) rfl rfl ?_
            refine AtL.pickF (.inl rfl) rfl rfl rfl ?_
            exact J _ (by exact ⟨(boolIs (by clear J; first | (simp [hs24]; done) | (simp_all; done) | grind)), rfl, trivial⟩)
        · skip
          refine AtL.done ?_
          refine At.cond rfl ?_ ?_
          · intro hc1
            have hc1 : ((((¬ ((l.length : Int) = 8)) ∨ (¬ (subl l 0 5 = [72, 84, 84, 80, 47]))) ∨ (¬ (48 ≤ ((l.getD 5 0).toNat : Int) ∧ ((l.getD 5 0).toNat : Int) ≤ 57))) ∨ (¬ (((l.getD 6 0).toNat : Int) = 46))) ∨ (¬ (48 ≤ ((l.getD 7 0).toNat : Int) ∧ ((l.getD 7 0).toNat : Int) ≤ 57)) := of_decide_eq_true hc1
            refine At.seq ?_
            refine At.region ?_
            refine AtL.assign (.inl rfl) rfl rfl ?_
            refine AtL.assign (.inl rfl) rfl rfl ?_
            refine AtL.assign (.inl rfl) rfl rfl ?_
            refine AtL.done ?_
            exact At.ret Tryz.func100 rfl rfl (Or.inl ⟨ver_no (by rintro ⟨a, b, c, d, e⟩; rcases hc1 with (((h | h) | h) | h) | h <;> contradiction), rfl, rfl⟩)
          · intro hc1
            have hc1 : ¬ (((((¬ ((l.length : Int) = 8)) ∨ (¬ (subl l 0 5 = [72, 84, 84, 80, 47]))) ∨ (¬ (48 ≤ ((l.getD 5 0).toNat : Int) ∧ ((l.getD 5 0).toNat : Int) ≤ 57))) ∨ (¬ (((l.getD 6 0).toNat : Int) = 46))) ∨ (¬ (48 ≤ ((l.getD 7 0).toNat : Int) ∧ ((l.getD 7 0).toNat : Int) ≤ 57))) := of_decide_eq_false hc1
            simp only [not_or, Decidable.not_not] at hc1
            obtain ⟨⟨⟨⟨v1, v2⟩, v3⟩, v4⟩, v5⟩ := hc1
            refine At.skip ?_
            refine At.seq ?_
            refine At.draw (es := []) (pv := [(0, str l), (1, .int .u8 ((l.getD 5 0).toNat : Int)), (2, .int .u8 ((l.getD 5 0 - 48 : UInt8).toNat : Int)), (3, str l), (4, .int .u8 ((l.getD 7 0).toNat : Int)), (5, .int .u8 ((l.getD 7 0 - 48 : UInt8).toNat : Int)), (6, .int .u8 ((l.getD 5 0 - 48 : UInt8).toNat : Int)), (7, .int .u8 ((l.getD 7 0 - 48 : UInt8).toNat : Int)), (8, .bool true)]) tf_mixed (by kernel_rfl) (by kernel_rfl) (by kernel_rfl) ?_
            refine ⟨⟨.inr ⟨_, rfl, rfl, .inl ⟨rfl, Do.move rfl⟩⟩, .inr ⟨_, rfl, rfl, .inl ⟨rfl, Do.indexS (l := l) 5 rfl (by omega) Tryz.underlying9 rfl rfl⟩⟩, .inr ⟨_, rfl, rfl, .inl ⟨rfl, Do.sub (z := ((l.getD 5 0 - 48 : UInt8).toNat : Int)) rfl rfl (sub48 v3)⟩⟩, .inr ⟨_, rfl, rfl, .inl ⟨rfl, Do.move rfl⟩⟩, .inr ⟨_, rfl, rfl, .inl ⟨rfl, Do.indexS (l := l) 7 rfl (by omega) Tryz.underlying9 rfl rfl⟩⟩, .inr ⟨_, rfl, rfl, .inl ⟨rfl, Do.sub (z := ((l.getD 7 0 - 48 : UInt8).toNat : Int)) rfl rfl (sub48 v5)⟩⟩, .inr ⟨_, rfl, rfl, .inl ⟨rfl, Do.assign rfl⟩⟩, .inr ⟨_, rfl, rfl, .inl ⟨rfl, Do.assign rfl⟩⟩, .inr ⟨_, rfl, rfl, .inl ⟨rfl, Do.assign rfl⟩⟩, trivial⟩, by kernel_rfl, ?_⟩
            refine At.mono (E' := [(2, .int .u8 ((l.getD 5 0 - 48 : UInt8).toNat : Int)), (3, .int .u8 ((l.getD 7 0 - 48 : UInt8).toNat : Int)), (4, .bool true)]) ⟨rfl, rfl, rfl, trivial⟩ ?_
            exact At.ret Tryz.func100 rfl rfl (Or.inr ⟨ver_yes v1 v2 v3 v4 v5, by omega, rfl, rfl⟩)

end Go.Proofs.YtlkdmbpbjhjkfaaGreatDoor
