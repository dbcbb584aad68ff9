/- Requests: plain laws. -/
import Derived.Test.YtlkdmbpbjhjkfaaGreatDoorE6
namespace Go.Proofs.YtlkdmbpbjhjkfaaGreatDoor
set_option linter.unusedVariables false
set_option linter.unusedSimpArgs false
set_option maxRecDepth 100000

theorem occ_c {c : UInt8} {s : List UInt8} {j : Nat} : Lib.occAt s [c] j = true → j < s.length ∧ ((s.getD j 0).toNat : Int) = (c.toNat : Int) := by
  intro h
  rw [Lib.occAt] at h
  by_cases hj : j < s.length
  · rw [List.drop_eq_getElem_cons hj] at h
    simp only [List.isPrefixOf, Bool.and_true] at h
    have e : s.getD j 0 = s[j] := by simp [List.getD, hj]
    rw [e, eq_of_beq h]; exact ⟨hj, rfl⟩
  · rw [List.drop_eq_nil_of_le (by omega)] at h; cases h
theorem cut_at {c : UInt8} {s : List UInt8} {i : Nat} (hi : i < s.length) (h : ∀ j, j < i → ¬ ((s.getD j 0).toNat : Int) = (c.toNat : Int)) (hc : ((s.getD i 0).toNat : Int) = (c.toNat : Int)) : Lib.cut s [c] = (subl s 0 i, subl s (i + 1) s.length, true) := by
  have hcc : s.getD i 0 = c := u8_same hc
  have e : Lib.index s [c] = (i : Int) := Lib.index_first (by omega) (by
    rw [Lib.occAt, List.drop_eq_getElem_cons hi]
    have e : s[i] = c := by rw [← hcc]; simp [List.getD, hi]
    rw [e]; simp [List.isPrefixOf]) fun j hj => by
      cases ho : Lib.occAt s [c] j with
      | false => rfl
      | true => exact absurd (occ_c ho).2 (h j hj)
  unfold Lib.cut
  rw [e, if_pos (by omega), Int.toNat_natCast, subl_to, subl_from]; rfl
theorem cut_not {c : UInt8} {s : List UInt8} {i : Nat} (hi : s.length ≤ i) (h : ∀ j, j < i → ¬ ((s.getD j 0).toNat : Int) = (c.toNat : Int)) : Lib.cut s [c] = (s, [], false) := by
  have e : Lib.index s [c] = -1 := Lib.index_none fun j hj => by
    cases ho : Lib.occAt s [c] j with
    | false => rfl
    | true => have := occ_c ho; exact absurd this.2 (h j (by omega))
  unfold Lib.cut
  rw [e, if_neg (by decide)]
theorem dns_pref {a : List UInt8} : ((4 : Int) ≤ (a.length : Int) ∧ subl a 0 4 = [100, 110, 115, 61]) ↔ DNSE <+: a := by
  rw [subl_to, List.prefix_iff_eq_take]
  constructor
  · intro h; exact h.2.symm
  · intro h
    refine ⟨?_, h.symm⟩
    have := congrArg List.length h
    rw [List.length_take] at this
    have e : DNSE.length = 4 := rfl
    omega

theorem ask_404 {m t body : List UInt8} {fs : List Fld} (h : ¬ (Lib.cut t [63]).1 = DNSQ) : askF m t fs body = ([], 404) := by rw [askF, if_pos h]
theorem ask_get {m t body : List UInt8} {fs : List Fld} (h : (Lib.cut t [63]).1 = DNSQ) (hm : m = GETM) : askF m t fs body = thenF (getF t) := by rw [askF, if_neg (fun h2 => h2 h), if_pos hm]
theorem ask_post {m t body : List UInt8} {fs : List Fld} (h : (Lib.cut t [63]).1 = DNSQ) (hm : m = POSTM) : askF m t fs body = thenF (postF fs body) := by rw [askF, if_neg (fun h2 => h2 h), if_neg (by rw [hm]; decide), if_pos hm]
theorem ask_405 {m t body : List UInt8} {fs : List Fld} (h : (Lib.cut t [63]).1 = DNSQ) (h1 : ¬ m = GETM) (h2 : ¬ m = POSTM) : askF m t fs body = ([], 405) := by rw [askF, if_neg (fun h2 => h2 h), if_neg h1, if_neg h2]
theorem get_none {t : List UInt8} (h : partF (Lib.cut t [63]).2.1 = none) : getF t = ([], 400) := by rw [getF, h]
theorem get_bad {t s : List UInt8} (h : partF (Lib.cut t [63]).2.1 = some s) (h2 : decB s = none) : getF t = ([], 400) := by rw [getF, h]; dsimp only; rw [h2]
theorem get_good {t s b : List UInt8} (h : partF (Lib.cut t [63]).2.1 = some s) (h2 : decB s = some b) : getF t = (b, 200) := by rw [getF, h]; dsimp only; rw [h2]
theorem then_no {s : Int} (h : ¬ s = 200) (l : List UInt8) : thenF (l, s) = ([], s) := by rw [thenF, if_neg h]
theorem then_few {b : List UInt8} (h : b.length < 12) : thenF (b, 200) = ([], 400) := by rw [thenF, if_pos rfl, sizesF, if_pos h]
theorem then_many {b : List UInt8} (h : ¬ b.length < 12) (h2 : 65535 < b.length) : thenF (b, 200) = ([], 413) := by rw [thenF, if_pos rfl, sizesF, if_neg h, if_pos h2]
theorem then_ok {b : List UInt8} (h : ¬ b.length < 12) (h2 : ¬ 65535 < b.length) : thenF (b, 200) = (b, 200) := by rw [thenF, if_pos rfl, sizesF, if_neg h, if_neg h2]
theorem rpost_cond {fs : List Fld} : (¬ ((fieldF fs CTYPE).2 : Int) = 1 ∨ ¬ lowerF (fieldF fs CTYPE).1 = lowerF MEDIA) ↔ (¬ (fieldF fs CTYPE).2 = 1 ∨ ¬ lowerF (fieldF fs CTYPE).1 = lowerF MEDIA) := by
  have e : ((fieldF fs CTYPE).2 : Int) = 1 ↔ (fieldF fs CTYPE).2 = 1 := by omega
  rw [e]
theorem post_no {fs : List Fld} {body : List UInt8} (h : ¬ (fieldF fs CTYPE).2 = 1 ∨ ¬ lowerF (fieldF fs CTYPE).1 = lowerF MEDIA) : postF fs body = ([], 415) := by rw [postF, if_pos h]
theorem post_yes {fs : List Fld} {body : List UInt8} (h : ¬ (¬ (fieldF fs CTYPE).2 = 1 ∨ ¬ lowerF (fieldF fs CTYPE).1 = lowerF MEDIA)) : postF fs body = (body, 200) := by rw [postF, if_neg h]
theorem part_le (q : List UInt8) : ∀ s, partF q = some s → s.length ≤ q.length := by
  induction q using (measure List.length).wf.induction with
  | _ q ih =>
    intro s h
    have hl := cutW_le [38] q
    by_cases h1 : DNSE <+: (Lib.cut q [38]).1
    · rw [part_yes h1] at h; cases h; rw [List.length_drop]; omega
    · cases h2 : (Lib.cut q [38]).2.2 with
      | true =>
        rw [part_more h1 h2] at h
        have h3 := cut_less h2
        have := ih _ h3 s h
        omega
      | false => rw [part_none h1 h2] at h; cases h

end Go.Proofs.YtlkdmbpbjhjkfaaGreatDoor
