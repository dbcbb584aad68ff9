/- Heads: bytes and words. -/
import Derived.Test.YtlkdmbpbjhjkfaaDoorH1
namespace Go.Proofs.YtlkdmbpbjhjkfaaDoor
set_option linter.unusedVariables false
set_option linter.unusedSimpArgs false
set_option maxRecDepth 100000

/-- The first k bytes turned. -/
def mapTo (f : UInt8 → UInt8) (l : List UInt8) (k : Nat) : List UInt8 := (l.take k).map f ++ l.drop k
theorem mapTo_len (f : UInt8 → UInt8) (l : List UInt8) (k : Nat) : (mapTo f l k).length = l.length := by simp [mapTo]; omega
theorem mapTo_zero (f : UInt8 → UInt8) (l : List UInt8) : mapTo f l 0 = l := by simp [mapTo]
theorem mapTo_all (f : UInt8 → UInt8) (l : List UInt8) : mapTo f l l.length = l.map f := by simp [mapTo]
theorem mapTo_get (f : UInt8 → UInt8) (l : List UInt8) (k : Nat) (h : k < l.length) : (mapTo f l k).getD k 0 = l.getD k 0 := by
  have hl : ((l.take k).map f).length = k := by simp; omega
  simp only [mapTo, List.getD]
  rw [List.getElem?_append_right (by omega), hl, Nat.sub_self, List.getElem?_drop, Nat.add_zero]
theorem mapTo_set (f : UInt8 → UInt8) (l : List UInt8) (k : Nat) (h : k < l.length) : (mapTo f l k).set k (f (l.getD k 0)) = mapTo f l (k + 1) := by
  have hl : ((l.take k).map f).length = k := by simp; omega
  unfold mapTo
  rw [List.set_append_right _ _ (by omega), hl, Nat.sub_self]
  rw [List.drop_eq_getElem_cons h, List.set_cons_zero]
  rw [List.take_succ_eq_append_getElem h, List.map_append]
  simp [List.getD, h]
theorem mapTo_same (f : UInt8 → UInt8) (l : List UInt8) (k : Nat) (h : k < l.length) (hf : f (l.getD k 0) = l.getD k 0) : mapTo f l (k + 1) = mapTo f l k := by
  rw [← mapTo_set f l k h, hf, ← mapTo_get f l k h]
  apply List.ext_getElem (by simp)
  intro i h1 h2
  rw [List.getElem_set]
  split
  · rename_i h3; subst h3; simp [List.getD, h2]
  · rfl
theorem lowB_up {c : UInt8} (h : (65 : Int) ≤ (c.toNat : Int) ∧ (c.toNat : Int) ≤ 90) : lowB c = c + 32 := by
  rw [lowB, if_pos ⟨by show (65 : Nat) ≤ c.toNat; omega, by show c.toNat ≤ 90; omega⟩]
theorem lowB_no {c : UInt8} (h : ¬ ((65 : Int) ≤ (c.toNat : Int) ∧ (c.toNat : Int) ≤ 90)) : lowB c = c := by
  rw [lowB, if_neg]
  rintro ⟨h1, h2⟩
  have h1 : (65 : Nat) ≤ c.toNat := h1
  have h2 : c.toNat ≤ 90 := h2
  omega
theorem add32 {c : UInt8} (h : (65 : Int) ≤ (c.toNat : Int) ∧ (c.toNat : Int) ≤ 90) : IntKind.u8.wrap ((c.toNat : Int) + 32) = ((lowB c).toNat : Int) := by
  rw [lowB_up h, UInt8.toNat_add]
  have h2 : (c.toNat + (32 : UInt8).toNat) % 2 ^ 8 = c.toNat + 32 := by
    rw [show (32 : UInt8).toNat = 32 from rfl]; omega
  rw [h2]
  exact w8 (by omega) (by omega)

set_option maxHeartbeats 400000 in
theorem lower_ok {w0 : World} {base : Nat} {H : List Seg} {l : List UInt8} (hl : l.length ≤ 140737488355000) :
    SCalls Tryd.prog 43 [str l] w0 base (H) (fun v H' => v = str (lowerF l) ∧ H' = H) := by
  refine SCalls.of_walk (n := 29) Tryd.func43 rfl rfl rfl fun cs => ?_
  refine At.seq ?_
  refine At.region ?_
  refine AtL.assign (.inl rfl) rfl rfl ?_
  refine AtL.done ?_
  refine At.seq ?_
  refine At.region ?_
  refine AtL.move (.inl rfl) rfl rfl ?_
  refine AtL.bytesOf (l := l) Tryd.underlying9 Tryd.underlying22 Tryd.underlying5 (by first | omega | (simp only [List.length_append, List.length_cons, List.length_nil]; omega) | (simp; done) | (simp; omega)) (.inl rfl) rfl rfl ?_
  intro A1 C2 s3 n5 o4
  refine AtL.assign (.inl rfl) rfl rfl ?_
  refine AtL.done ?_
  refine At.seq ?_
  refine At.seq ?_
  refine At.region ?_
  refine AtL.move (.inl rfl) rfl rfl ?_
  refine AtL.lenL Tryd.underlying22 (.inl rfl) rfl rfl ?_
  refine AtL.move (.inl rfl) rfl rfl ?_
  refine AtL.done ?_
  refine At.block ?_
  refine At.loop2 (fun (k : Nat) (s2 : Seg) => [(3, .slice A1 (mapTo lowB l k).length C2), (8, .slice A1 (mapTo lowB l k).length C2), (9, .int .i64 (l.length : Int)), (10, .int .i64 (k : Int))]) (fun (k : Nat) (s2 : Seg) => s2 :: H) (fun (k : Nat) (s2 : Seg) => k ≤ l.length ∧ Own tyB 5 A1 (C2) (mapTo lowB l k) s2) (fun (k : Nat) (s2 : Seg) => l.length - k) 0 s3 (⟨Nat.zero_le _, by rw [mapTo_zero]; exact o4⟩) ⟨rfl, rfl, rfl, rfl, trivial⟩ rfl ?_
  rintro k s2 ⟨hk, ho⟩ ihL1
  have hlen := mapTo_len lowB l k
  have hcap := Own.cap_le ho
  have hle := Own.le_cap ho
  refine At.seq ?_
  refine At.region ?_
  refine AtL.lss (.inl rfl) rfl rfl rfl ?_
  refine AtL.done ?_
  refine At.seq ?_
  refine At.cond rfl ?_ ?_
  · intro hc1
    have hc1 : (k : Int) < (l.length : Int) := of_decide_eq_true hc1
    refine At.skip ?_
    refine At.seq ?_
    refine At.block ?_
    refine At.seq ?_
    refine At.region ?_
    refine AtL.move (.inl rfl) rfl rfl ?_
    refine AtL.indexL k (ho.rd (i := 0) rfl) Tryd.underlying22 tf_sz5 (.inl rfl) rfl rfl rfl rfl (by omega) ?_
    refine AtL.load (v := .int .u8 (((mapTo lowB l k).getD k 0).toNat : Int)) tf_flat5 (.inl rfl) rfl rfl (Rd.cell0 (ho.rd (i := 0) rfl) (getD_some 0 (by omega)) rfl) ?_
    refine AtL.assign (.inl rfl) rfl rfl ?_
    refine AtL.assign (.inl rfl) rfl rfl ?_
    refine AtL.done ?_
    refine At.seq ?_
    refine At.region ?_
    refine AtL.move (.inl rfl) rfl rfl ?_
    refine AtL.geq (.inl rfl) rfl rfl rfl ?_
    refine AtL.move (.inl rfl) rfl rfl ?_
    refine AtL.join 3 (E' := [(20, .bool (decide ((65 ≤ (((mapTo lowB l k).getD k 0).toNat : Int)) ∧ ((((mapTo lowB l k).getD k 0).toNat : Int) ≤ 90)))), (3, .slice A1 (mapTo lowB l k).length C2), (4, .int .i64 (k : Int)), (5, .int .u8 (((mapTo lowB l k).getD k 0).toNat : Int)), (8, .slice A1 (mapTo lowB l k).length C2), (9, .int .i64 (l.length : Int)), (10, .int .i64 (k : Int))]) (H' := s2 :: H) (fun J => ?_) ?_
    · refine AtL.split (t := 17) rfl ?_ ?_
      · intro hs17
        have hs17 : 65 ≤ (((mapTo lowB l k).getD k 0).toNat : Int) := of_decide_eq_true hs17
        refine AtL.move (.inr ⟨_, _, _, rfl, rfl, rfl, rfl⟩) rfl rfl ?_
        refine AtL.leq (.inr ⟨_, _, _, rfl, rfl, rfl, rfl⟩) rfl rfl rfl ?_
        refine AtL.pickT (.inl rfl) rfl rfl rfl ?_
        exact J _ (by exact ⟨(boolIs (by clear J; first | (simp [hs17]; done) | (simp_all; done) | grind)), rfl, rfl, rfl, rfl, rfl, rfl, trivial⟩)
      · intro hs17
        have hs17 : ¬ (65 ≤ (((mapTo lowB l k).getD k 0).toNat : Int)) := of_decide_eq_false hs17
        refine AtL.skipped rfl rfl rfl rfl rfl rfl ?_
        refine AtL.skipped rfl rfl rfl rfl rfl rfl ?_
        refine AtL.pickF (.inl rfl) rfl rfl rfl ?_
        exact J _ (by exact ⟨(boolIs (by clear J; first | (simp [hs17]; done) | (simp_all; done) | grind)), rfl, rfl, rfl, rfl, rfl, rfl, trivial⟩)
    · skip
      refine AtL.done ?_
      refine At.cond rfl ?_ ?_
      · intro hc2
        have hc2 : (65 ≤ (((mapTo lowB l k).getD k 0).toNat : Int)) ∧ ((((mapTo lowB l k).getD k 0).toNat : Int) ≤ 90) := of_decide_eq_true hc2
        refine At.region ?_
        refine AtL.move (.inl rfl) rfl rfl ?_
        refine AtL.move (.inl rfl) rfl rfl ?_
        refine AtL.move (.inl rfl) rfl rfl ?_
        refine AtL.add (z := (lowB ((mapTo lowB l k).getD k 0)).toNat) (.inl rfl) rfl rfl rfl (add32 hc2) ?_
        refine AtL.indexL k (ho.rd (i := 0) rfl) Tryd.underlying22 tf_sz5 (.inl rfl) rfl rfl rfl rfl (by omega) ?_
        refine AtL.setIdx (u := (lowB ((mapTo lowB l k).getD k 0))) 0 k tf_sz5 rfl ho (by omega) (.inl rfl) rfl rfl ?_
        intro s6 o7
        refine AtL.relen (m := ((mapTo lowB l k).set k (lowB ((mapTo lowB l k).getD k 0))).length) 3 rfl (List.length_set) ?_
        refine AtL.relen (m := ((mapTo lowB l k).set k (lowB ((mapTo lowB l k).getD k 0))).length) 8 rfl (List.length_set) ?_
        refine AtL.done ?_
        refine At.inBlock ?_
        refine At.region ?_
        refine AtL.add (z := (k : Int) + 1) (.inl rfl) rfl rfl rfl (w64 (by omega) (by omega)) ?_
        refine AtL.move (.inl rfl) rfl rfl ?_
        refine AtL.done ?_
        refine ihL1 (k + 1) s6 (⟨by omega, by rw [← mapTo_set _ _ _ (by omega), ← mapTo_get lowB l k (by omega)]; exact o7⟩) (by omega) _ ?_
        exact ⟨(by first | rfl | exact slLen (by simp [mapTo_len]) | exact intEq (by omega) | exact intEq (by simp [mapTo_len]) | exact slLen (by simp [mapTo_len]; omega)), (by first | rfl | exact slLen (by simp [mapTo_len]) | exact intEq (by omega) | exact intEq (by simp [mapTo_len]) | exact slLen (by simp [mapTo_len]; omega)), rfl, (by first | rfl | exact slLen (by simp [mapTo_len]) | exact intEq (by omega) | exact intEq (by simp [mapTo_len]) | exact slLen (by simp [mapTo_len]; omega)), trivial⟩
      · intro hc2
        have hc2 : ¬ ((65 ≤ (((mapTo lowB l k).getD k 0).toNat : Int)) ∧ ((((mapTo lowB l k).getD k 0).toNat : Int) ≤ 90)) := of_decide_eq_false hc2
        refine At.skip ?_
        refine At.inBlock ?_
        refine At.region ?_
        refine AtL.add (z := (k : Int) + 1) (.inl rfl) rfl rfl rfl (w64 (by omega) (by omega)) ?_
        refine AtL.move (.inl rfl) rfl rfl ?_
        refine AtL.done ?_
        refine ihL1 (k + 1) s2 (⟨by omega, by rw [mapTo_same _ _ _ (by omega) (by rw [← mapTo_get lowB l k (by omega)]; exact lowB_no hc2)]; exact ho⟩) (by omega) _ ?_
        exact ⟨(by first | rfl | exact slLen (by simp [mapTo_len]) | exact intEq (by omega) | exact intEq (by simp [mapTo_len]) | exact slLen (by simp [mapTo_len]; omega)), (by first | rfl | exact slLen (by simp [mapTo_len]) | exact intEq (by omega) | exact intEq (by simp [mapTo_len]) | exact slLen (by simp [mapTo_len]; omega)), rfl, (by first | rfl | exact slLen (by simp [mapTo_len]) | exact intEq (by omega) | exact intEq (by simp [mapTo_len]) | exact slLen (by simp [mapTo_len]; omega)), trivial⟩
  · intro hc1
    have hc1 : ¬ ((k : Int) < (l.length : Int)) := of_decide_eq_false hc1
    obtain rfl : k = l.length := by omega
    refine At.exit rfl ?_
    refine At.seq ?_
    refine At.region ?_
    refine AtL.move (.inl rfl) rfl rfl ?_
    refine AtL.strOf (ho.rd (i := 0) rfl) Tryd.underlying22 Tryd.underlying5 Tryd.underlying9 (.inl rfl) rfl rfl ?_
    refine AtL.assign (.inl rfl) rfl rfl ?_
    refine AtL.done ?_
    refine At.pick (H' := H) [] 1 rfl rfl ?_
    exact At.ret Tryd.func43 rfl rfl (⟨congrArg str (by rw [mapTo_all, lowerF]), rfl⟩)

theorem take_succ_d (l : List UInt8) (k : Nat) (h : k < l.length) : l.take (k + 1) = l.take k ++ [l.getD k 0] := by
  rw [List.take_succ_eq_append_getElem h]; simp [List.getD, h]
theorem all_step {p : UInt8 → Bool} {l : List UInt8} {k : Nat} (h : k < l.length) (ha : (l.take k).all p = true) (hp : p (l.getD k 0) = true) : (l.take (k + 1)).all p = true := by
  rw [take_succ_d l k h, List.all_append, ha]; simpa using hp
theorem all_bad {p : UInt8 → Bool} {l : List UInt8} {k : Nat} (h : k < l.length) (hp : p (l.getD k 0) = false) : l.all p = false := by
  rw [List.all_eq_false]
  refine ⟨l.getD k 0, ?_, by rw [hp]; simp⟩
  simp [List.getD, h]
theorem all_end {p : UInt8 → Bool} {l : List UInt8} {k : Nat} (h : l.length ≤ k) (ha : (l.take k).all p = true) : l.all p = true := by
  rw [List.take_of_length_le h] at ha; exact ha
/-- A byte is a number below 256, and back. -/
theorem u8_eq {c : UInt8} {n : Nat} (hn : n < 256) : (c.toNat : Int) = (n : Int) ↔ c = UInt8.ofNat n := by
  constructor
  · intro h
    have h : c.toNat = n := by omega
    apply UInt8.toNat_inj.1
    rw [h, UInt8.toNat_ofNat_of_lt' hn]
  · rintro rfl
    rw [UInt8.toNat_ofNat_of_lt' hn]

def tgtCh (c : UInt8) : Bool := decide (33 ≤ c.toNat ∧ c.toNat ≤ 126)
theorem tgtCh_yes {c : UInt8} (h : ¬ ((c.toNat : Int) < 33 ∨ 126 < (c.toNat : Int))) : tgtCh c = true := decide_eq_true (by omega)
theorem tgtCh_no {c : UInt8} (h : (c.toNat : Int) < 33 ∨ 126 < (c.toNat : Int)) : tgtCh c = false := decide_eq_false (by omega)
theorem targetF_all (l : List UInt8) : targetF l = (decide (l.head? = some 47) && l.all tgtCh) := rfl
theorem head_47 (l : List UInt8) : (l.head? = some 47) ↔ (l ≠ [] ∧ ((l.getD 0 0).toNat : Int) = 47) := by
  cases l with
  | nil => simp
  | cons c l =>
    simp only [List.head?_cons, Option.some.injEq, ne_eq, reduceCtorEq, not_false_eq_true, true_and]
    exact (u8_eq (c := c) (n := 47) (by omega)).symm
theorem valCh_yes {c : UInt8} (h : ¬ (¬ (c.toNat : Int) = 9 ∧ ((c.toNat : Int) < 32 ∨ (c.toNat : Int) = 127))) : valCh c = true := by
  have h9 := u8_eq (c := c) (n := 9) (by omega)
  have h127 := u8_eq (c := c) (n := 127) (by omega)
  have hlt : c < 32 ↔ (c.toNat : Int) < 32 := by
    constructor
    · intro h; have : c.toNat < 32 := h; omega
    · intro h; show c.toNat < 32; omega
  simp only [valCh, Bool.and_eq_true, Bool.not_eq_true', Bool.and_eq_false_iff, decide_eq_false_iff_not, decide_eq_true_eq, ne_eq, Decidable.not_not, hlt]
  by_cases h1 : (c.toNat : Int) = 9
  · have : c = 9 := h9.1 h1
    subst this; exact ⟨.inl rfl, by decide⟩
  · refine ⟨.inr (fun h2 => h ⟨h1, .inl h2⟩), fun h2 => h ⟨h1, .inr (h127.2 h2)⟩⟩
theorem valCh_no {c : UInt8} (h : ¬ (c.toNat : Int) = 9 ∧ ((c.toNat : Int) < 32 ∨ (c.toNat : Int) = 127)) : valCh c = false := by
  have h9 := u8_eq (c := c) (n := 9) (by omega)
  have h127 := u8_eq (c := c) (n := 127) (by omega)
  have hlt : c < 32 ↔ (c.toNat : Int) < 32 := by
    constructor
    · intro h; have : c.toNat < 32 := h; omega
    · intro h; show c.toNat < 32; omega
  have h1 : ¬ c = 9 := fun h2 => h.1 (h9.2 h2)
  rcases h.2 with h2 | h2
  · simp only [valCh, ne_eq, h1, not_false_eq_true, decide_true, hlt.2 h2, Bool.and_self, Bool.not_true, Bool.false_and]
  · have : c = 127 := h127.1 h2
    subst this; decide
theorem valueF_is (l : List UInt8) (h : l.all valCh = true) : valueF l = decide (l = [] ∨ (¬ (((l.getD 0 0).toNat : Int) = 9 ∨ ((l.getD 0 0).toNat : Int) = 32) ∧ ¬ (((l.getD (Int.toNat ((l.length : Int) - 1)) 0).toNat : Int) = 9 ∨ ((l.getD (Int.toNat ((l.length : Int) - 1)) 0).toNat : Int) = 32))) := by
  have key : ∀ c : UInt8, blankF c = false ↔ ¬ ((c.toNat : Int) = 9 ∨ (c.toNat : Int) = 32) := by
    intro c
    have h9 := u8_eq (c := c) (n := 9) (by omega)
    have h32 := u8_eq (c := c) (n := 32) (by omega)
    simp only [blankF, Bool.or_eq_false_iff, decide_eq_false_iff_not, not_or]
    exact and_congr (not_congr h9.symm) (not_congr h32.symm)
  rw [show Int.toNat ((l.length : Int) - 1) = l.length - 1 by omega, valueF, h, Bool.true_and]
  exact decide_eq_decide.2 ((trim_same l).trans (by rw [key, key]))

/-- Which bytes are among some, as an array. -/
def letA (l : List UInt8) : List Bool := (List.range 256).map fun i => l.contains (UInt8.ofNat i)
theorem letA_len (l : List UInt8) : (letA l).length = 256 := by simp [letA]
theorem letA_nil : List.replicate 256 false = letA [] := by
  apply List.ext_getElem (by rw [letA_len, List.length_replicate])
  intro i h1 h2
  rw [List.getElem_replicate]
  simp only [letA, List.getElem_map]
  rfl
theorem letA_get (l : List UInt8) (c : UInt8) : (letA l).getD c.toNat false = l.contains c := by
  have h := c.toNat_lt
  simp [letA, List.getD, h, UInt8.ofNat_toNat]
theorem letA_set (l : List UInt8) (c : UInt8) : (letA l).set c.toNat true = letA (l ++ [c]) := by
  apply List.ext_getElem (by simp [letA])
  intro i h1 h2
  have hi : i < 256 := by simpa [letA] using h2
  rw [List.getElem_set]
  by_cases h : c.toNat = i
  · subst h
    simp [letA, UInt8.ofNat_toNat]
  · have hne : ¬ (UInt8.ofNat i = c) := by
      intro h3; apply h; rw [← h3, UInt8.toNat_ofNat_of_lt' hi]
    simp [letA, h, hne]

theorem word_no {s : List UInt8} {k : Nat} {most : Int} (hk : k < s.length) (h : (letA LET).getD (s.getD k 0).toNat false = false) : wordF s most = false := by
  rw [letA_get, ← let_eq] at h
  rw [wordF, all_bad hk h, Bool.and_false]
theorem word_yes {s : List UInt8} {most : Int} (h : s.all letterF = true) : wordF s most = decide (¬ s = [] ∧ (s.length : Int) ≤ most) := by
  rw [wordF, h, Bool.and_true]
  apply decide_eq_decide.2
  have := List.length_pos_iff (l := s)
  constructor
  · rintro ⟨h1, h2⟩; exact ⟨this.1 (by omega), h2⟩
  · rintro ⟨h1, h2⟩; exact ⟨this.2 h1, h2⟩

theorem ver_no {l : List UInt8} (h : ¬ ((l.length : Int) = 8 ∧ subl l 0 5 = [72, 84, 84, 80, 47] ∧ (48 ≤ ((l.getD 5 0).toNat : Int) ∧ ((l.getD 5 0).toNat : Int) ≤ 57) ∧ ((l.getD 6 0).toNat : Int) = 46 ∧ (48 ≤ ((l.getD 7 0).toNat : Int) ∧ ((l.getD 7 0).toNat : Int) ≤ 57))) : verF l = false := by
  rw [← Bool.not_eq_true]
  intro hv
  apply h
  simp only [verF, Bool.and_eq_true, decide_eq_true_eq, UInt8.le_iff_toNat_le] at hv
  obtain ⟨⟨⟨⟨h1, h2⟩, h3⟩, h4⟩, h5⟩ := hv
  have e1 : (48 : UInt8).toNat = 48 := rfl
  have e2 : (57 : UInt8).toNat = 57 := rfl
  rw [e1, e2] at h3 h5
  exact ⟨by omega, by rw [show subl l 0 5 = l.take 5 by simp [subl]]; exact h2, by omega, (u8_eq (c := l.getD 6 0) (n := 46) (by omega)).2 h4, by omega⟩
theorem ver_yes {l : List UInt8} (h1 : (l.length : Int) = 8) (h2 : subl l 0 5 = [72, 84, 84, 80, 47]) (h3 : 48 ≤ ((l.getD 5 0).toNat : Int) ∧ ((l.getD 5 0).toNat : Int) ≤ 57) (h4 : ((l.getD 6 0).toNat : Int) = 46) (h5 : 48 ≤ ((l.getD 7 0).toNat : Int) ∧ ((l.getD 7 0).toNat : Int) ≤ 57) : verF l = true := by
  have e1 : (48 : UInt8).toNat = 48 := rfl
  have e2 : (57 : UInt8).toNat = 57 := rfl
  simp only [verF, Bool.and_eq_true, decide_eq_true_eq, UInt8.le_iff_toNat_le, e1, e2]
  exact ⟨⟨⟨⟨by omega, by rw [show subl l 0 5 = l.take 5 by simp [subl]] at h2; exact h2⟩, by omega⟩, (u8_eq (c := l.getD 6 0) (n := 46) (by omega)).1 h4⟩, by omega⟩
theorem sub48 {c : UInt8} (h : 48 ≤ (c.toNat : Int) ∧ (c.toNat : Int) ≤ 57) : IntKind.u8.wrap ((c.toNat : Int) - 48) = (((c - 48 : UInt8)).toNat : Int) := by
  have h1 : (c - 48).toNat = c.toNat - 48 := by
    rw [UInt8.toNat_sub_of_le]
    · rfl
    · show (48 : UInt8).toNat ≤ c.toNat
      have : (48 : UInt8).toNat = 48 := rfl
      omega
  rw [h1]
  have h2 : ((c.toNat - 48 : Nat) : Int) = (c.toNat : Int) - 48 := by omega
  rw [h2]
  exact w8 (by omega) (by omega)

end Go.Proofs.YtlkdmbpbjhjkfaaDoor
