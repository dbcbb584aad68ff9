/- The plain law of heads. -/
import Derived.Lib.Split
import Derived.Lib.Index
import Derived.Lib.SlTrimSet
import Derived.Lib.Atoi
import Derived.Test.YtlkdmbpbjhjkfaaGreatDoorK1
namespace Go.Proofs.YtlkdmbpbjhjkfaaGreatDoor
set_option linter.unusedVariables false
set_option linter.unusedSimpArgs false
set_option maxRecDepth 100000

open Go

/-- Bytes up to the first 13, 10, and those behind it. -/
def cutCR : List UInt8 → Option (List UInt8 × List UInt8)
  | [] => none
  | c :: r => if c = 13 ∧ r.head? = some 10 then some ([], r.tail) else (cutCR r).map fun p => (c :: p.1, p.2)
def crlf (c : UInt8) : Bool := c = 13 || c = 10
theorem cutCR_len {b l r : List UInt8} (h : cutCR b = some (l, r)) : b = l ++ 13 :: 10 :: r := by
  induction b generalizing l with
  | nil => simp [cutCR] at h
  | cons c b ih =>
    unfold cutCR at h
    split at h
    · rename_i h1
      obtain ⟨rfl, h2⟩ := h1
      cases b with
      | nil => simp at h2
      | cons d b => simp at h2; subst h2; simp at h; obtain ⟨rfl, rfl⟩ := h; rfl
    · cases hc : cutCR b with
      | none => rw [hc] at h; simp at h
      | some p =>
        rw [hc] at h
        simp at h
        obtain ⟨rfl, rfl⟩ := h
        rw [ih (l := p.1) (by rw [hc])]
        rfl
/-- P13.2: the lines of a head, without the last one, which is empty. -/
def linesF (b : List UInt8) : Option (List (List UInt8)) :=
  match h : cutCR b with
  | none => none
  | some (l, r) => if l.any crlf then none else if l = [] then (if r = [] then some [] else none) else (linesF r).map (l :: ·)
termination_by b.length
decreasing_by (have := cutCR_len h; rw [this]; simp; omega)
/-- The lines as the answer beside it finds them: byte by byte. -/
def lnF (line : List UInt8) : List UInt8 → Option (List (List UInt8))
  | [] => if line = [] then some [] else none
  | c :: r => if c ≠ 13 ∧ c ≠ 10 then lnF (line ++ [c]) r else if c = 10 ∨ r.head? ≠ some 10 then none else (lnF [] r.tail).map (line :: ·)
termination_by b => b.length
decreasing_by all_goals (simp; try omega)
theorem lnF_cut (b line : List UInt8) : lnF line b = match cutCR b with
    | none => if b.any crlf then none else if line ++ b = [] then some [] else none
    | some (l, r) => if l.any crlf then none else (lnF [] r).map ((line ++ l) :: ·) := by
  induction b generalizing line with
  | nil => simp [lnF, cutCR]
  | cons c b ih =>
    rw [lnF]
    by_cases hc : c ≠ 13 ∧ c ≠ 10
    · rw [if_pos hc, ih]
      have h1 : ¬ (c = 13 ∧ b.head? = some 10) := fun h => hc.1 h.1
      have hcr : crlf c = false := by simp [crlf, hc.1, hc.2]
      conv => rhs; rw [cutCR, if_neg h1]
      cases hb : cutCR b with
      | none => simp [hcr]
      | some p => simp [hcr]
    · rw [if_neg hc]
      by_cases h2 : c = 10 ∨ b.head? ≠ some 10
      · rw [if_pos h2]
        have h1 : ¬ (c = 13 ∧ b.head? = some 10) := by
          rintro ⟨rfl, h3⟩
          rcases h2 with h2 | h2
          · cases h2
          · exact h2 h3
        have hcr : crlf c = true := by simp [crlf]; by_cases h9 : c = 13 <;> simp_all
        rw [cutCR, if_neg h1]
        cases hb : cutCR b with
        | none => simp [hcr]
        | some p => simp [hcr]
      · have h3 : c = 13 ∧ b.head? = some 10 := by
          have : ¬ c = 10 := fun h => h2 (.inl h)
          have h4 : b.head? = some 10 := by
            apply Classical.byContradiction
            intro h; exact h2 (.inr h)
          exact ⟨Classical.byContradiction fun h => hc ⟨h, this⟩, h4⟩
        rw [if_neg h2, cutCR, if_pos h3]
        simp
/-- Lines that are whole: the last one is empty, and no other one. -/
def wholeL : List (List UInt8) → Bool
  | [] => false
  | [l] => l = []
  | l :: k :: ls => l ≠ [] && wholeL (k :: ls)
theorem lnF_lines (b : List UInt8) : (match lnF [] b with | none => none | some ls => if wholeL ls = true then some ls else none) = (linesF b).map (· ++ [[]]) := by
  induction b using (measure List.length).wf.induction with
  | _ b ih =>
    rw [lnF_cut, linesF]
    cases hb : cutCR b with
    | none =>
      simp only [List.nil_append]
      by_cases h1 : b.any crlf = true
      · simp [h1]
      · by_cases h2 : b = []
        · subst h2; simp [wholeL]
        · simp [h1, h2]
    | some p =>
      obtain ⟨l, r⟩ := p
      have hlen := cutCR_len hb
      simp only [List.nil_append]
      by_cases h1 : l.any crlf = true
      · simp [h1]
      · rw [if_neg h1]
        have hi := ih r (show r.length < b.length by rw [hlen]; simp; omega)
        simp only [h1, Bool.false_eq_true, if_false]
        by_cases h2 : l = []
        · subst h2
          cases hr : lnF [] r with
          | none =>
            by_cases h3 : r = []
            · subst h3; simp [lnF] at hr
            · simp [h3]
          | some ls =>
            cases ls with
            | nil =>
              have h3 : r = [] := by
                rw [lnF_cut] at hr
                cases hc : cutCR r with
                | none =>
                  rw [hc] at hr
                  simp only [List.nil_append] at hr
                  by_cases h4 : r.any crlf = true
                  · simp [h4] at hr
                  · by_cases h5 : r = []
                    · exact h5
                    · simp [h4, h5] at hr
                | some q =>
                  rw [hc] at hr
                  simp only at hr
                  split at hr
                  · cases hr
                  · cases h6 : lnF [] q.2 <;> rw [h6] at hr <;> simp at hr
              subst h3; simp [wholeL]
            | cons k ls =>
              have h3 : r ≠ [] := by intro h; subst h; simp [lnF] at hr
              simp [h3, wholeL]
        · rw [if_neg h2]
          cases hr : lnF [] r with
          | none =>
            rw [hr] at hi
            cases hq : linesF r with
            | none => simp
            | some q => rw [hq] at hi; simp at hi
          | some ls =>
            rw [hr] at hi
            cases ls with
            | nil =>
              cases hq : linesF r with
              | none => simp [wholeL, h2]
              | some q => rw [hq] at hi; simp [wholeL] at hi
            | cons k ls =>
              simp only [Option.map_some, wholeL, h2, ne_eq, not_false_eq_true, decide_true, Bool.true_and]
              by_cases h4 : wholeL (k :: ls) = true
              · simp only [h4, if_true] at hi ⊢
                cases hq : linesF r with
                | none => rw [hq] at hi; simp at hi
                | some q => rw [hq] at hi; simp at hi ⊢; rw [hi]
              · simp only [h4] at hi ⊢
                cases hq : linesF r with
                | none => simp
                | some q => rw [hq] at hi; simp at hi
theorem cutCR_index (b : List UInt8) : cutCR b = if Lib.index b [13, 10] = -1 then none else some (b.take (Lib.index b [13, 10]).toNat, b.drop ((Lib.index b [13, 10]).toNat + 2)) := by
  induction b with
  | nil => rfl
  | cons c r ih =>
    have hg := Lib.index_ge r [13, 10]
    unfold cutCR Lib.index
    by_cases h : c = 13 ∧ r.head? = some 10
    · obtain ⟨rfl, h2⟩ := h
      cases r with
      | nil => simp at h2
      | cons d r => simp at h2; subst h2; simp [List.isPrefixOf]
    · rw [if_neg h]
      have hp : List.isPrefixOf [13, 10] (c :: r) = false := by
        cases r with
        | nil => simp [List.isPrefixOf]
        | cons d r => simp [List.isPrefixOf] at h ⊢; intro h1 h2; exact h h1.symm h2.symm
      rw [hp, ih]
      by_cases h3 : Lib.index r [13, 10] = -1
      · simp [h3]
      · have h4 : ¬ (Lib.index r [13, 10] == -1) = true := by simpa using h3
        simp only [Bool.false_eq_true, if_false, h3, h4]
        have h5 : ¬ Lib.index r [13, 10] + 1 = -1 := by omega
        rw [if_neg h5]
        have h6 : (Lib.index r [13, 10] + 1).toNat = (Lib.index r [13, 10]).toNat + 1 := by omega
        rw [h6]
        simp [Nat.add_right_comm]
/-- The words of a line, with a byte between each two. -/
def spF (c : UInt8) : List UInt8 → List (List UInt8)
  | [] => [[]]
  | d :: r => if d = c then [] :: spF c r else match spF c r with
    | [] => [[d]]
    | w :: ws => (d :: w) :: ws
theorem spF_ne (c : UInt8) (l : List UInt8) : spF c l ≠ [] := by
  cases l with
  | nil => simp [spF]
  | cons d r => unfold spF; split <;> (try simp); split <;> simp
theorem index_c (c : UInt8) (l : List UInt8) : (Lib.index l [c] = -1 ∧ l.count c = 0 ∧ spF c l = [l]) ∨ (∃ i : Nat, Lib.index l [c] = i ∧ i < l.length ∧ l.count c = (l.drop (i + 1)).count c + 1 ∧ spF c l = l.take i :: spF c (l.drop (i + 1))) := by
  induction l with
  | nil => left; exact ⟨rfl, rfl, rfl⟩
  | cons d r ih =>
    by_cases h : d = c
    · subst h
      right
      refine ⟨0, by unfold Lib.index; simp [List.isPrefixOf], by simp, by simp, ?_⟩
      rw [spF, if_pos rfl]; simp
    · have hp : List.isPrefixOf [c] (d :: r) = false := by simp [List.isPrefixOf]; exact fun h2 => h h2.symm
      rcases ih with ⟨h1, h2, h3⟩ | ⟨i, h1, h2, h3, h4⟩
      · left
        refine ⟨by unfold Lib.index; rw [hp]; simp [h1], by simp [List.count_cons, h, h2], ?_⟩
        rw [spF, if_neg h, h3]
      · right
        refine ⟨i + 1, ?_, by simp; omega, ?_, ?_⟩
        · unfold Lib.index; rw [hp, h1]
          have : ¬ ((i : Int) == -1) = true := by simp
          simp only [Bool.false_eq_true, if_false]
          rw [if_neg this]; omega
        · rw [List.drop_succ_cons, List.count_cons, h3]; simp [h]
        · rw [spF, if_neg h, h4]; simp
theorem splitK_sp (c : UInt8) (l : List UInt8) : Lib.splitK [c] 0 (l.count c) l = spF c l := by
  induction l using (measure List.length).wf.induction with
  | _ l ih =>
    rcases index_c c l with ⟨h1, h2, h3⟩ | ⟨i, h1, h2, h3, h4⟩
    · rw [h2, h3]; rfl
    · rw [h3, h4]
      unfold Lib.splitK
      have h5 : ¬ (Lib.index l [c] == -1) = true := by rw [h1]; simp
      rw [if_neg h5, h1]
      simp only [Int.toNat_natCast, Nat.add_zero, List.length_singleton]
      rw [ih (l.drop (i + 1)) (show (List.drop _ _).length < _ by simp; omega)]
theorem count_c (c : UInt8) (n : Nat) (l : List UInt8) (h : l.length < n) : Lib.countFrom [c] n l = l.count c := by
  induction n generalizing l with
  | zero => omega
  | succ n ih =>
    unfold Lib.countFrom
    rcases index_c c l with ⟨h1, h2, h3⟩ | ⟨i, h1, h2, h3, h4⟩
    · rw [h1, h2]; rfl
    · have h5 : ¬ (Lib.index l [c] == -1) = true := by rw [h1]; simp
      rw [if_neg h5, h1, h3]
      simp only [Int.toNat_natCast, List.length_singleton]
      rw [ih _ (by simp; omega)]; omega
theorem split_sp (c : UInt8) (l : List UInt8) : Lib.split l [c] = spF c l := by
  unfold Lib.split Lib.count
  rw [count_c c _ l (by omega)]
  exact splitK_sp c l
def blankF (c : UInt8) : Bool := c = 9 || c = 32
theorem dw_le (p : UInt8 → Bool) (l : List UInt8) : (l.dropWhile p).length ≤ l.length := by
  induction l with
  | nil => simp
  | cons c l ih => rw [List.dropWhile_cons]; split <;> simp; omega
/-- Without some bytes at the beginning; at the end. -/
def tl (p : UInt8 → Bool) (l : List UInt8) : List UInt8 := l.dropWhile p
def tr (p : UInt8 → Bool) (l : List UInt8) : List UInt8 := (l.reverse.dropWhile p).reverse
theorem tr_nil (p : UInt8 → Bool) : tr p [] = [] := rfl
theorem tr_snoc (p : UInt8 → Bool) (l : List UInt8) (c : UInt8) : tr p (l ++ [c]) = if p c then tr p l else l ++ [c] := by
  unfold tr
  rw [List.reverse_append]
  simp only [List.reverse_cons, List.reverse_nil, List.nil_append, List.singleton_append, List.dropWhile_cons]
  split <;> simp
theorem tl_snoc (p : UInt8 → Bool) (l : List UInt8) (c : UInt8) : tl p (l ++ [c]) = if tl p l = [] then (if p c then [] else [c]) else tl p l ++ [c] := by
  induction l with
  | nil => simp [tl, List.dropWhile_cons]
  | cons d l ih =>
    unfold tl at ih ⊢
    simp only [List.cons_append, List.dropWhile_cons]
    split
    · exact ih
    · simp
theorem snoc_cases (l : List UInt8) : l = [] ∨ ∃ k c, l = k ++ [c] := by
  rcases List.eq_nil_or_concat l with h | ⟨k, c, h⟩
  · exact .inl h
  · exact .inr ⟨k, c, by simpa using h⟩
theorem tl_tr (p : UInt8 → Bool) (l : List UInt8) : tl p (tr p l) = tr p (tl p l) := by
  induction l using (measure List.length).wf.induction with
  | _ l ih =>
    rcases snoc_cases l with rfl | ⟨k, c, rfl⟩
    · rfl
    · rw [tr_snoc, tl_snoc]
      have hk := ih k (show k.length < (k ++ [c]).length by simp)
      by_cases hc : p c = true
      · rw [if_pos hc, hk]
        by_cases h2 : tl p k = []
        · rw [if_pos h2, if_pos hc, h2]
        · rw [if_neg h2, tr_snoc, if_pos hc]
      · rw [if_neg hc, tl_snoc]
        by_cases h2 : tl p k = []
        · rw [if_pos h2, if_neg hc]
          have := tr_snoc p [] c
          rw [if_neg hc] at this
          exact this.symm
        · rw [if_neg h2, tr_snoc, if_neg hc]
def trimF (l : List UInt8) : List UInt8 := tr blankF (tl blankF l)
theorem trim_set (l : List UInt8) : Lib.trimS l [9, 32] = trimF l := by
  have h : (fun c => ([9, 32] : List UInt8).contains c) = blankF := by
    funext c
    simp [blankF, List.contains_cons]
  unfold Lib.trimS Lib.trimLeftS Lib.trimRightS trimF
  rw [h]
  exact tl_tr blankF l
theorem tl_all (p : UInt8 → Bool) (l : List UInt8) : tl p l = [] ↔ l.all p = true := by
  induction l with
  | nil => simp [tl]
  | cons c l ih =>
    unfold tl at ih ⊢
    rw [List.dropWhile_cons]
    split
    · rename_i h; rw [ih]; simp [h]
    · rename_i h; simp [h]
theorem trim_digits (l cs : List UInt8) : Lib.trimS l cs = [] ↔ l.all (fun c => cs.contains c) = true := by
  have h : Lib.trimS l cs = tl (fun c => cs.contains c) (tr (fun c => cs.contains c) l) := rfl
  rw [h, tl_tr]
  constructor
  · intro h2
    apply (tl_all _ _).1
    rcases snoc_cases (tl (fun c => cs.contains c) l) with h3 | ⟨k, c, h3⟩
    · exact h3
    · exfalso
      -- what is left begins with a byte that is none
      have hne : ∀ k : List UInt8, k.all (fun c => cs.contains c) = false → tr (fun c => cs.contains c) k ≠ [] := by
        intro k hk h9
        unfold tr at h9
        rw [List.reverse_eq_nil_iff] at h9
        have := (tl_all (fun c => cs.contains c) k.reverse).1 h9
        rw [List.all_reverse] at this
        rw [this] at hk; cases hk
      have hd : ∀ m : List UInt8, tl (fun c => cs.contains c) m ≠ [] → (tl (fun c => cs.contains c) m).all (fun c => cs.contains c) = false := by
        intro m hm
        induction m with
        | nil => exact absurd rfl hm
        | cons d m ih =>
          unfold tl at ih hm ⊢
          rw [List.dropWhile_cons] at hm ⊢
          split at hm
          · rename_i hd; rw [if_pos hd]; exact ih hm
          · rename_i hd; rw [if_neg hd]; simp at hd; simp [hd]
      exact hne _ (hd l (by rw [h3]; simp)) h2
  · intro h2
    rw [(tl_all _ _).2 h2]; rfl
def lowB (c : UInt8) : UInt8 := if 65 ≤ c ∧ c ≤ 90 then c + 32 else c
def lowerF (l : List UInt8) : List UInt8 := l.map lowB
/-- A value that may be. -/
def valCh (c : UInt8) : Bool := !(c ≠ 9 && c < 32) && c ≠ 127
def valueF (l : List UInt8) : Bool := l.all valCh && decide (trimF l = l)
theorem trim_same (l : List UInt8) : trimF l = l ↔ (l = [] ∨ (blankF (l.getD 0 0) = false ∧ blankF (l.getD (l.length - 1) 0) = false)) := by
  constructor
  · intro h
    by_cases h0 : l = []
    · exact .inl h0
    · right
      have hlen : (tl blankF l).length ≤ l.length := by unfold tl; exact dw_le _ _
      have hlen2 : (tr blankF (tl blankF l)).length ≤ (tl blankF l).length := by unfold tr; rw [List.length_reverse]; exact Nat.le_trans (dw_le _ _) (by simp)
      have e : (tr blankF (tl blankF l)).length = l.length := by show (trimF l).length = _; rw [h]
      constructor
      · cases l with
        | nil => exact absurd rfl h0
        | cons c l =>
          show blankF c = false
          cases hb : blankF c with
          | false => rfl
          | true =>
            exfalso
            have : tl blankF (c :: l) = tl blankF l := by unfold tl; rw [List.dropWhile_cons, if_pos hb]
            have h3 : (tl blankF l).length ≤ l.length := by unfold tl; exact dw_le _ _
            rw [this] at hlen2 e
            simp at e; omega
      · rcases snoc_cases l with h1 | ⟨k, c, rfl⟩
        · exact absurd h1 h0
        · have : (k ++ [c]).getD ((k ++ [c]).length - 1) 0 = c := by simp
          rw [this]
          cases hb : blankF c with
          | false => rfl
          | true =>
            exfalso
            have h2 : trimF (k ++ [c]) = tl blankF (tr blankF (k ++ [c])) := (tl_tr _ _).symm
            rw [tr_snoc, if_pos hb] at h2
            have h3 : (tl blankF (tr blankF k)).length ≤ k.length := by
              refine Nat.le_trans (dw_le _ _) ?_
              unfold tr; rw [List.length_reverse]; exact Nat.le_trans (dw_le _ _) (by simp)
            rw [← h2, h] at h3
            simp at h3; omega
  · rintro (rfl | ⟨h1, h2⟩)
    · rfl
    · have ha : tl blankF l = l := by
        cases l with
        | nil => rfl
        | cons c l => unfold tl; rw [List.dropWhile_cons, if_neg (by rw [show blankF c = false from h1]; simp)]
      unfold trimF
      rw [ha]
      rcases snoc_cases l with rfl | ⟨k, c, rfl⟩
      · rfl
      · have : (k ++ [c]).getD ((k ++ [c]).length - 1) 0 = c := by simp
        rw [this] at h2
        rw [tr_snoc, if_neg (by rw [h2]; simp)]
/-- A word's letters. -/
def LET : List UInt8 := [48, 49, 50, 51, 52, 53, 54, 55, 56, 57, 65, 66, 67, 68, 69, 70, 71, 72, 73, 74, 75, 76, 77, 78, 79, 80, 81, 82, 83, 84, 85, 86, 87, 88, 89, 90, 97, 98, 99, 100, 101, 102, 103, 104, 105, 106, 107, 108, 109, 110, 111, 112, 113, 114, 115, 116, 117, 118, 119, 120, 121, 122, 33, 35, 36, 37, 38, 39, 42, 43, 45, 46, 94, 95, 96, 124, 126]
def letterF (c : UInt8) : Bool :=
  decide ((((48 ≤ c.toNat ∧ c.toNat ≤ 57) ∨ (65 ≤ c.toNat ∧ c.toNat ≤ 90)) ∨ (97 ≤ c.toNat ∧ c.toNat ≤ 122)) ∨
    (c.toNat = 33 ∨ (35 ≤ c.toNat ∧ c.toNat ≤ 39) ∨ c.toNat = 42 ∨ c.toNat = 43 ∨ c.toNat = 45 ∨ c.toNat = 46 ∨ (94 ≤ c.toNat ∧ c.toNat ≤ 96) ∨ c.toNat = 124 ∨ c.toNat = 126))
theorem let_all : ((List.range 256).all fun n => letterF (UInt8.ofNat n) == LET.contains (UInt8.ofNat n)) = true := by decide +kernel
theorem let_eq (c : UInt8) : letterF c = LET.contains c := by
  have h := List.all_eq_true.1 let_all c.toNat (List.mem_range.2 (by have := c.toNat_lt; omega))
  rw [UInt8.ofNat_toNat] at h
  exact eq_of_beq h
def wordF (s : List UInt8) (most : Int) : Bool := decide (1 ≤ s.length ∧ (s.length : Int) ≤ most) && s.all letterF
def targetF (s : List UInt8) : Bool := decide (s.head? = some 47) && s.all fun c => decide (33 ≤ c.toNat ∧ c.toNat ≤ 126)
/-- The values of all fields of a name. -/
def allF (fs : List (List UInt8 × List UInt8)) (name : List UInt8) : List (List UInt8) := (fs.filter fun f => lowerF f.1 = lowerF name).map (·.2)
def fieldF (fs : List (List UInt8 × List UInt8)) (name : List UInt8) : List UInt8 × Nat := ((allF fs name).headD [], (allF fs name).length)
def HOST : List UInt8 := [104, 111, 115, 116]
def hostsF (fs : List (List UInt8 × List UInt8)) (minor : Int) : Bool := decide ((fieldF fs HOST).2 = 1 ∨ ((fieldF fs HOST).2 = 0 ∧ minor = 0))
abbrev Fld := List UInt8 × List UInt8
/-- A head of a request, in plain words. -/
structure HeadV where
  m : List UInt8
  t : List UInt8
  minor : Int
  fs : List Fld
deriving DecidableEq
def HeadV.zero : HeadV := ⟨[], [], 0, []⟩
def fieldOk (f : Fld) : Bool := wordF f.1 64 && valueF f.2
def okF (h : HeadV) : Bool :=
  wordF h.m 16 && decide (h.t.length ≤ 2048) && targetF h.t && decide (0 ≤ h.minor ∧ h.minor ≤ 1) && decide (h.fs.length ≤ 32) && h.fs.all fieldOk && hostsF h.fs h.minor
def HTTP1 : List UInt8 := [72, 84, 84, 80, 47, 49, 46]
def fieldB (f : Fld) : List UInt8 := f.1 ++ 58 :: 32 :: f.2
def fieldsB : List Fld → List UInt8
  | [] => [13, 10]
  | f :: fs => fieldB f ++ 13 :: 10 :: fieldsB fs
def lineB (h : HeadV) : List UInt8 := h.m ++ 32 :: (h.t ++ 32 :: (HTTP1 ++ [UInt8.ofNat (48 + h.minor.toNat)]))
def headB (h : HeadV) : List UInt8 := lineB h ++ 13 :: 10 :: fieldsB h.fs
def writeOk (h : HeadV) : Bool := okF h && decide ((headB h).length ≤ 4096)
/-- A text up to a byte, and behind it. -/
def cutC (c : UInt8) : List UInt8 → Option (List UInt8 × List UInt8)
  | [] => none
  | a :: r => if a = c then some ([], r) else (cutC c r).map fun p => (a :: p.1, p.2)
def verF (v : List UInt8) : Bool :=
  decide (v.length = 8) && decide (v.take 5 = [72, 84, 84, 80, 47]) && decide (48 ≤ v.getD 5 0 ∧ v.getD 5 0 ≤ 57) && decide (v.getD 6 0 = 46) && decide (48 ≤ v.getD 7 0 ∧ v.getD 7 0 ≤ 57)
/-- The fields that lines are, or a status. -/
def fieldsF : List (List UInt8) → Nat → Int ⊕ List Fld
  | [], _ => .inr []
  | x :: r, n => if n = 32 then .inl 431 else
    match cutC 58 x with
    | none => .inl 400
    | some (k, v) => if wordF k 64 && valueF (trimF v) then
        (match fieldsF r (n + 1) with | .inl s => .inl s | .inr fs => .inr ((k, trimF v) :: fs))
      else .inl 400
def headF (l0 : List UInt8) (ls : List (List UInt8)) : HeadV × Int :=
  match spF 32 l0 with
  | [m, t, v] =>
    if m = [] ∨ t = [] ∨ v = [] ∨ wordF m 16 = false then (.zero, 400)
    else if verF v = false then (.zero, 400)
    else if v.getD 5 0 ≠ 49 ∨ 49 < v.getD 7 0 then (.zero, 505)
    else if 2048 < t.length then (.zero, 414)
    else if targetF t = false then (.zero, 400)
    else match fieldsF ls 0 with
      | .inl s => (.zero, s)
      | .inr fs => if hostsF fs ((v.getD 7 0 - 48).toNat : Int) then (⟨m, t, ((v.getD 7 0 - 48).toNat : Int), fs⟩, 200) else (.zero, 400)
  | _ => (.zero, 400)
def parseF (b : List UInt8) : HeadV × Int :=
  if 4096 < b.length then (.zero, 431)
  else match linesF b with
    | none => (.zero, 400)
    | some [] => (.zero, 400)
    | some (l0 :: ls) => headF l0 ls

theorem cutCR_app {l : List UInt8} (r : List UInt8) (h : l.any crlf = false) : cutCR (l ++ 13 :: 10 :: r) = some (l, r) := by
  induction l with
  | nil => simp [cutCR]
  | cons c l ih =>
    have hc : crlf c = false := by simp at h; exact h.1
    have h1 : l.any crlf = false := by simp at h; simpa using h.2
    have h2 : ¬ c = 13 := by intro h3; subst h3; cases hc
    rw [List.cons_append, cutCR, if_neg (fun h3 => h2 h3.1), ih h1]; rfl
theorem linesF_app {l : List UInt8} (r : List UInt8) (h : l.any crlf = false) (hn : l ≠ []) : linesF (l ++ 13 :: 10 :: r) = (linesF r).map (l :: ·) := by
  have h1 := cutCR_app r h
  rw [linesF]
  split
  · rename_i h2; rw [h1] at h2; cases h2
  · rename_i a b h2
    rw [h1] at h2
    cases h2
    rw [if_neg (by rw [h]; simp), if_neg hn]
theorem linesF_end : linesF [13, 10] = some [] := by
  rw [linesF]
  split
  · rename_i h2; simp [cutCR] at h2
  · rename_i a b h2
    simp [cutCR] at h2
    obtain ⟨rfl, rfl⟩ := h2
    simp
theorem spF_app {c : UInt8} {l : List UInt8} (r : List UInt8) (h : l.any (fun x => x == c) = false) : spF c (l ++ c :: r) = l :: spF c r := by
  induction l with
  | nil => simp [spF]
  | cons a l ih =>
    have h0 : ¬ a = c := by simp at h; exact h.1
    have h1 : l.any (fun x => x == c) = false := by simp at h; simpa using h.2
    rw [List.cons_append, spF, if_neg h0, ih h1]
theorem spF_one {c : UInt8} {l : List UInt8} (h : l.any (fun x => x == c) = false) : spF c l = [l] := by
  induction l with
  | nil => simp [spF]
  | cons a l ih =>
    have h0 : ¬ a = c := by simp at h; exact h.1
    have h1 : l.any (fun x => x == c) = false := by simp at h; simpa using h.2
    rw [spF, if_neg h0, ih h1]
theorem cutC_app {c : UInt8} {l : List UInt8} (r : List UInt8) (h : l.any (fun x => x == c) = false) : cutC c (l ++ c :: r) = some (l, r) := by
  induction l with
  | nil => simp [cutC]
  | cons a l ih =>
    have h0 : ¬ a = c := by simp at h; exact h.1
    have h1 : l.any (fun x => x == c) = false := by simp at h; simpa using h.2
    rw [List.cons_append, cutC, if_neg h0, ih h1]; rfl
theorem all_not {p q : UInt8 → Bool} (l : List UInt8) (h : l.all p = true) (hq : ∀ c, p c = true → q c = false) : l.any q = false := by
  rw [List.any_eq_false]
  intro c hc
  rw [hq c (List.all_eq_true.1 h c hc)]; simp
theorem letter_cl : ∀ c : UInt8, letterF c = true → (crlf c = false ∧ (c == 32) = false ∧ (c == 58) = false) := by
  intro c h
  rw [let_eq] at h
  have h1 : c ∈ LET := by simpa using h
  have h2 : ∀ c ∈ LET, (crlf c = false ∧ (c == 32) = false ∧ (c == 58) = false) := by decide +kernel
  exact h2 c h1
theorem word_cl {s : List UInt8} {n : Int} (h : wordF s n = true) : s ≠ [] ∧ s.any crlf = false ∧ s.any (fun x => x == 32) = false ∧ s.any (fun x => x == 58) = false := by
  simp only [wordF, Bool.and_eq_true, decide_eq_true_eq] at h
  refine ⟨?_, all_not s h.2 fun c hc => (letter_cl c hc).1, all_not s h.2 fun c hc => (letter_cl c hc).2.1, all_not s h.2 fun c hc => (letter_cl c hc).2.2⟩
  rintro rfl; simp at h
theorem target_cl {s : List UInt8} (h : targetF s = true) : s ≠ [] ∧ s.any crlf = false ∧ s.any (fun x => x == 32) = false := by
  simp only [targetF, Bool.and_eq_true, decide_eq_true_eq] at h
  refine ⟨?_, all_not s h.2 fun c hc => ?_, all_not s h.2 fun c hc => ?_⟩
  · rintro rfl; simp at h
  · simp only [decide_eq_true_eq] at hc
    simp only [crlf, Bool.or_eq_false_iff, decide_eq_false_iff_not]
    constructor <;> (rintro rfl; revert hc; decide)
  · simp only [decide_eq_true_eq] at hc
    simp only [beq_eq_false_iff_ne, ne_eq]
    rintro rfl; revert hc; decide
theorem value_cl {s : List UInt8} (h : valueF s = true) : s.any crlf = false ∧ trimF s = s := by
  simp only [valueF, Bool.and_eq_true, decide_eq_true_eq] at h
  refine ⟨all_not s h.1 fun c hc => ?_, h.2⟩
  simp only [crlf, Bool.or_eq_false_iff, decide_eq_false_iff_not]
  constructor <;> (rintro rfl; revert hc; decide)
theorem trim_blank (a : UInt8) (h : blankF a = true) (v : List UInt8) : trimF (a :: v) = trimF v := by
  simp [trimF, tl, h]
theorem trim_snoc (a : UInt8) (h : blankF a = true) (v : List UInt8) : trimF (v ++ [a]) = trimF v := by
  rw [trimF, ← tl_tr, tr_snoc, if_pos h, tl_tr]; rfl
theorem trim_app1 (n : Nat) (z v : List UInt8) (hn : z.length = n) (hz : z.all blankF = true) : trimF (v ++ z) = trimF v := by
  induction n generalizing z with
  | zero => rw [List.length_eq_zero_iff.1 hn, List.append_nil]
  | succ n ih =>
    rcases snoc_cases z with rfl | ⟨k, c, rfl⟩
    · simp at hn
    · simp only [List.all_append, Bool.and_eq_true] at hz
      rw [← List.append_assoc, trim_snoc _ (by simpa using hz.2)]
      exact ih k (by simpa using hn) hz.1
theorem trim_app (x z v : List UInt8) (hx : x.all blankF = true) (hz : z.all blankF = true) : trimF (x ++ (v ++ z)) = trimF v := by
  induction x with
  | nil => rw [List.nil_append]; exact trim_app1 _ z v rfl hz
  | cons a x ih =>
    simp only [List.all_cons, Bool.and_eq_true] at hx
    rw [List.cons_append, trim_blank _ hx.1, ih hx.2]
theorem line_ne (f : Fld) : fieldB f ≠ [] := by simp [fieldB]
theorem field_line {f : Fld} (h : fieldOk f = true) : (fieldB f).any crlf = false ∧ cutC 58 (fieldB f) = some (f.1, 32 :: f.2) ∧ trimF (32 :: f.2) = f.2 := by
  simp only [fieldOk, Bool.and_eq_true] at h
  obtain ⟨h1, h2⟩ := h
  obtain ⟨_, hw, _, hw2⟩ := word_cl h1
  obtain ⟨hv, ht⟩ := value_cl h2
  refine ⟨?_, cutC_app _ hw2, ?_⟩
  · rw [fieldB, List.any_append, hw, List.any_cons, List.any_cons, hv]; decide
  · rw [trim_blank _ (by decide), ht]
theorem fields_back (fs : List Fld) (n : Nat) (hn : n + fs.length ≤ 32) (h : fs.all fieldOk = true) :
    ∃ ls, linesF (fieldsB fs) = some ls ∧ fieldsF ls n = .inr fs := by
  induction fs generalizing n with
  | nil => exact ⟨[], linesF_end, rfl⟩
  | cons f fs ih =>
    simp only [List.all_cons, Bool.and_eq_true] at h
    simp only [List.length_cons] at hn
    obtain ⟨ls, h1, h2⟩ := ih (n + 1) (by omega) h.2
    obtain ⟨g1, g2, g3⟩ := field_line h.1
    refine ⟨fieldB f :: ls, ?_, ?_⟩
    · rw [fieldsB, linesF_app _ g1 (line_ne f), h1]; rfl
    · have h3 := h.1
      simp only [fieldOk] at h3
      rw [fieldsF, if_neg (by omega), g2]
      simp only [g3, h3, h2, if_true]
theorem ver_c : ∀ n : Nat, n ≤ 1 → verF (HTTP1 ++ [UInt8.ofNat (48 + n)]) = true ∧ (HTTP1 ++ [UInt8.ofNat (48 + n)]).getD 5 0 = 49 ∧ (HTTP1 ++ [UInt8.ofNat (48 + n)]).getD 7 0 = UInt8.ofNat (48 + n) ∧ ¬ 49 < UInt8.ofNat (48 + n) ∧ (UInt8.ofNat (48 + n) - 48).toNat = n ∧ (HTTP1 ++ [UInt8.ofNat (48 + n)]).any crlf = false ∧ (HTTP1 ++ [UInt8.ofNat (48 + n)]).any (fun x => x == 32) = false := by
  intro n hn
  have : n = 0 ∨ n = 1 := by omega
  rcases this with rfl | rfl <;> decide +kernel
theorem back1 (h : HeadV) (ho : writeOk h = true) : parseF (headB h) = (h, 200) := by
  simp only [writeOk, Bool.and_eq_true, decide_eq_true_eq] at ho
  obtain ⟨ho, hlen⟩ := ho
  simp only [okF, Bool.and_eq_true, decide_eq_true_eq] at ho
  obtain ⟨⟨⟨⟨⟨⟨hm, ht1⟩, ht⟩, hmin⟩, hfs⟩, hall⟩, hh⟩ := ho
  obtain ⟨m1, m2, m3, _⟩ := word_cl hm
  obtain ⟨t1, t2, t3⟩ := target_cl ht
  obtain ⟨v1, v2, v3, v4, v5, v6, v7⟩ := ver_c h.minor.toNat (by omega)
  obtain ⟨ls, h1, h2⟩ := fields_back h.fs 0 (by omega) hall
  have hl : (lineB h).any crlf = false := by
    rw [lineB, List.any_append, m2, List.any_cons, List.any_append, t2, List.any_cons, v6]; decide
  have hne : lineB h ≠ [] := by simp [lineB]
  have hsp : spF 32 (lineB h) = [h.m, h.t, HTTP1 ++ [UInt8.ofNat (48 + h.minor.toNat)]] := by
    rw [lineB, spF_app _ m3, spF_app _ t3, spF_one v7]
  rw [parseF, if_neg (by omega), headB, linesF_app _ hl hne, h1]
  simp only [Option.map_some]
  rw [headF, hsp]
  have hvne : HTTP1 ++ [UInt8.ofNat (48 + h.minor.toNat)] ≠ [] := by simp
  have h0 : ((h.minor.toNat : Nat) : Int) = h.minor := by omega
  simp only [m1, t1, hm, v1, v2, v3, v4, v5, ht, h2, h0, hh, hvne, show ¬ 2048 < h.t.length by omega, or_self, Bool.false_eq_true, if_false, if_true, not_true_eq_false, ne_eq, reduceCtorEq]
theorem linesF_len {b : List UInt8} {ls : List (List UInt8)} (h : linesF b = some ls) : b.length = ((ls.map fun l => l.length + 2).sum) + 2 := by
  induction b using (measure List.length).wf.induction generalizing ls with
  | _ b ih =>
    rw [linesF] at h
    split at h
    · cases h
    · rename_i l r hc
      have hb := cutCR_len hc
      split at h
      · cases h
      · split at h
        · rename_i h1 h2
          split at h
          · rename_i h3
            cases h; subst h3; subst h2; rw [hb]; rfl
          · cases h
        · cases hr : linesF r with
          | none => rw [hr] at h; cases h
          | some ks =>
            rw [hr] at h
            cases h
            have := ih r (show r.length < b.length by rw [hb]; simp; omega) hr
            rw [hb]
            simp only [List.length_append, List.length_cons, List.map_cons, List.sum_cons, this]
            omega
theorem cutC_len {c : UInt8} {x l r : List UInt8} (h : cutC c x = some (l, r)) : x = l ++ c :: r := by
  induction x generalizing l with
  | nil => simp [cutC] at h
  | cons a x ih =>
    unfold cutC at h
    split at h
    · rename_i h1; subst h1; cases h; rfl
    · cases hc : cutC c x with
      | none => rw [hc] at h; cases h
      | some p => rw [hc] at h; cases h; rw [ih (l := p.1) (by rw [hc])]; rfl
theorem trimF_le (l : List UInt8) : (trimF l).length ≤ l.length := by
  have h1 := dw_le blankF l
  have h2 := dw_le blankF (l.dropWhile blankF).reverse
  simp only [trimF, tl, tr, List.length_reverse] at *
  omega
theorem fields_of (ls : List (List UInt8)) (n : Nat) (fs : List Fld) (hn : n ≤ 32) (h : fieldsF ls n = .inr fs) :
    fs.all fieldOk = true ∧ n + fs.length ≤ 32 ∧ (fieldsB fs).length ≤ (ls.map fun l => l.length + 2).sum + 2 + fs.length := by
  induction ls generalizing n fs with
  | nil => cases h; simp [fieldsB, hn]
  | cons x ls ih =>
    rw [fieldsF] at h
    split at h
    · cases h
    · rename_i hne
      split at h
      · cases h
      · rename_i k v hc
        split at h
        · rename_i hok
          cases hr : fieldsF ls (n + 1) with
          | inl s => rw [hr] at h; cases h
          | inr gs =>
            rw [hr] at h
            cases h
            obtain ⟨i1, i2, i3⟩ := ih (n + 1) gs (by omega) hr
            have hx := cutC_len hc
            have hv := trimF_le v
            refine ⟨?_, ?_, ?_⟩
            · rw [List.all_cons, i1, fieldOk]; simp only [hok, Bool.and_self]
            · simp only [List.length_cons]; omega
            · simp only [fieldsB, fieldB, List.length_append, List.length_cons, List.map_cons, List.sum_cons, hx]
              omega
        · cases h
theorem spF_join {c : UInt8} {l : List UInt8} {a b d : List UInt8} (h : spF c l = [a, b, d]) : l = a ++ c :: (b ++ c :: d) := by
  have one : ∀ (l a : List UInt8) (r : List (List UInt8)), spF c l = a :: r → (r = [] ∧ l = a) ∨ (∃ k, l = a ++ c :: k ∧ spF c k = r) := by
    intro l
    induction l with
    | nil => intro a r h; simp [spF] at h; exact .inl ⟨h.2, h.1.symm⟩
    | cons x l ih =>
      intro a r h
      rw [spF] at h
      split at h
      · rename_i h1; cases h; subst h1; exact .inr ⟨l, rfl, rfl⟩
      · cases hl : spF c l with
        | nil => exact absurd hl (spF_ne c l)
        | cons y ys =>
          rw [hl] at h
          simp at h
          obtain ⟨rfl, rfl⟩ := h
          rcases ih y ys hl with ⟨h1, h2⟩ | ⟨k, h1, h2⟩
          · exact .inl ⟨h1, by rw [h2]⟩
          · exact .inr ⟨k, by rw [h1]; rfl, h2⟩
  rcases one l a _ h with ⟨h1, _⟩ | ⟨k, h1, h2⟩
  · cases h1
  · rcases one k b _ h2 with ⟨h3, _⟩ | ⟨j, h3, h4⟩
    · cases h3
    · rcases one j d _ h4 with ⟨_, h5⟩ | ⟨i, h5, h6⟩
      · rw [h1, h3, h5]
      · exact absurd h6 (spF_ne c i)
theorem byte_minor : ∀ c : UInt8, (48 ≤ c ∧ c ≤ 57) → ¬ 49 < c → (c - 48).toNat ≤ 1 := by
  intro c h1 h2
  have h3 : c = 48 ∨ c = 49 := by
    have a1 : 48 ≤ c.toNat := h1.1
    have a2 : ¬ 49 < c.toNat := h2
    have : c.toNat = 48 ∨ c.toNat = 49 := by omega
    rcases this with h | h
    · exact .inl (UInt8.toNat_inj.1 h)
    · exact .inr (UInt8.toNat_inj.1 h)
  rcases h3 with rfl | rfl <;> decide
/-- What is parsed may be, and it is not much longer when it is written. -/
theorem back2 (b : List UInt8) (z : HeadV) (h : parseF b = (z, 200)) : okF z = true ∧ (headB z).length ≤ b.length + 32 := by
  rw [parseF] at h
  split at h
  · cases h
  · split at h
    · cases h
    · cases h
    · rename_i hb l0 ls hl
      rw [headF] at h
      split at h
      · rename_i m t v hsp
        split at h
        · cases h
        · rename_i c1
          split at h
          · cases h
          · rename_i c2
            split at h
            · cases h
            · rename_i c3
              split at h
              · cases h
              · rename_i c4
                split at h
                · cases h
                · rename_i c5
                  split at h
                  · rename_i s hs
                    have : s = 200 := by injection h
                    subst this
                    exfalso
                    revert hs
                    have key : ∀ (ls : List (List UInt8)) (n : Nat), fieldsF ls n ≠ .inl 200 := by
                      intro ls
                      induction ls with
                      | nil => intro n h; cases h
                      | cons x ls ih =>
                        intro n h
                        rw [fieldsF] at h
                        split at h
                        · injection h with h; revert h; decide
                        · split at h
                          · injection h with h; revert h; decide
                          · split at h
                            · split at h
                              · rename_i s hs; injection h with h; subst h; exact ih _ hs
                              · cases h
                            · injection h with h; revert h; decide
                    exact key ls 0
                  · rename_i fs hf
                    split at h
                    · rename_i hh
                      cases h
                      obtain ⟨f1, f2, f3⟩ := fields_of ls 0 fs (by omega) hf
                      have hlen := linesF_len hl
                      have hj := spF_join hsp
                      simp only [verF, Bool.and_eq_false_iff, not_or, Bool.not_eq_false, decide_eq_true_eq] at c2
                      simp only [not_or, Bool.not_eq_false] at c1 c3 c5
                      have hmin := byte_minor _ c2.2 c3.2
                      refine ⟨?_, ?_⟩
                      · simp only [okF, Bool.and_eq_true, decide_eq_true_eq]
                        refine ⟨⟨⟨⟨⟨⟨c1.2.2.2, by omega⟩, c5⟩, by omega⟩, by omega⟩, f1⟩, hh⟩
                      · have hv : v.length = 8 := c2.1.1.1.1
                        have h7 : HTTP1.length = 7 := rfl
                        simp only [headB, lineB, List.length_append, List.length_cons, List.length_nil, List.map_cons, List.sum_cons, h7] at hlen ⊢
                        rw [hj] at hlen
                        simp only [List.length_append, List.length_cons] at hlen
                        omega
                    · cases h
      · cases h
def CLEN : List UInt8 := [99, 111, 110, 116, 101, 110, 116, 45, 108, 101, 110, 103, 116, 104]
def TENC : List UInt8 := [116, 114, 97, 110, 115, 102, 101, 114, 45, 101, 110, 99, 111, 100, 105, 110, 103]
def CONN : List UInt8 := [99, 111, 110, 110, 101, 99, 116, 105, 111, 110]
def CLOSE : List UInt8 := [99, 108, 111, 115, 101]
def ALIVE : List UInt8 := [107, 101, 101, 112, 45, 97, 108, 105, 118, 101]
/-- The number that a length's text tells; none: it is none. -/
def sizeF (s : List UInt8) : Option Nat := if s.length ≤ 10 then Go.Lib.decNat s else none
def lengthF (fs : List Fld) : Int × Int :=
  if 0 < (fieldF fs TENC).2 then (0, 501)
  else match allF fs CLEN with
    | [] => (-1, 200)
    | f :: r => if r.all (fun s => decide (s = f)) then
        (match sizeF f with
          | none => (0, 400)
          | some n => if 65535 < n then (0, 413) else ((n : Int), 200))
      else (0, 400)
def wordsF (fs : List Fld) : List (List UInt8) := (allF fs CONN).flatMap fun v => (spF 44 v).map fun x => lowerF (trimF x)
/-- Whether the connection goes on: word by word. -/
def goesF : Bool → List (List UInt8) → Bool
  | k, [] => k
  | k, w :: r => if w = CLOSE then false else goesF (k || decide (w = ALIVE)) r
def keepF (fs : List Fld) (minor : Int) : Bool := goesF (decide (minor = 1)) (wordsF fs)
theorem goes_app (k : Bool) (a b : List (List UInt8)) : goesF k (a ++ b) = if a.contains CLOSE then false else goesF (k || a.contains ALIVE) b := by
  induction a generalizing k with
  | nil => simp
  | cons w a ih =>
    rw [List.cons_append, goesF, ih]
    by_cases h : w = CLOSE
    · subst h; simp
    · rw [if_neg h]
      have h1 : ((w :: a).contains CLOSE) = a.contains CLOSE := by
        rw [List.contains_cons]
        have : (CLOSE == w) = false := by simp [Ne.symm h]
        rw [this, Bool.false_or]
      have h2 : ((w :: a).contains ALIVE) = (decide (w = ALIVE) || a.contains ALIVE) := by
        rw [List.contains_cons]
        congr 1
        by_cases h3 : w = ALIVE
        · subst h3; simp
        · simp [h3, Ne.symm h3]
      rw [h1, h2, Bool.or_assoc]
/-- Digits, at least one: what the library's trim says, and what its number says. -/
theorem dec_all (s : List UInt8) (n : Nat) : (Go.Lib.decFrom n s).isSome = s.all fun c => decide (48 ≤ c.toNat ∧ c.toNat ≤ 57) := by
  induction s generalizing n with
  | nil => rfl
  | cons a s ih =>
    rw [Go.Lib.decFrom, List.all_cons]
    by_cases h : 48 ≤ a.toNat ∧ a.toNat ≤ 57
    · rw [Go.Lib.digitVal, if_pos h]; simp only [ih, h, and_self, decide_true, Bool.true_and]
    · rw [Go.Lib.digitVal, if_neg h]; simp [h]
def DIG : List UInt8 := [48, 49, 50, 51, 52, 53, 54, 55, 56, 57]
theorem dig_all : ((List.range 256).all fun n => (decide (48 ≤ (UInt8.ofNat n).toNat ∧ (UInt8.ofNat n).toNat ≤ 57)) == DIG.contains (UInt8.ofNat n)) = true := by decide +kernel
theorem dig_eq (c : UInt8) : decide (48 ≤ c.toNat ∧ c.toNat ≤ 57) = DIG.contains c := by
  have h := List.all_eq_true.1 dig_all c.toNat (List.mem_range.2 (by have := c.toNat_lt; omega))
  rw [UInt8.ofNat_toNat] at h
  exact eq_of_beq h
theorem size_some (s : List UInt8) : (sizeF s).isSome = (decide (s ≠ []) && decide (s.length ≤ 10) && decide (Go.Lib.trimS s DIG = [])) := by
  rw [sizeF]
  by_cases h : s.length ≤ 10
  · rw [if_pos h, Go.Lib.decNat]
    cases s with
    | nil => rfl
    | cons a s =>
      have h1 : (Go.Lib.trimS (a :: s) DIG = []) ↔ ((a :: s).all fun c => decide (48 ≤ c.toNat ∧ c.toNat ≤ 57)) = true := by
        rw [trim_digits]; simp only [dig_eq]
      simp only [List.isEmpty_cons, Bool.false_eq_true, if_false, dec_all, ne_eq, reduceCtorEq, not_false_eq_true, decide_true, Bool.true_and, h]
      by_cases h2 : ((a :: s).all fun c => decide (48 ≤ c.toNat ∧ c.toNat ≤ 57)) = true
      · rw [h2, decide_eq_true (h1.2 h2)]
      · rw [Bool.not_eq_true] at h2
        rw [h2, decide_eq_false (fun h3 => by rw [h1.1 h3] at h2; cases h2)]
  · rw [if_neg h]; simp [h]
theorem size_atoi {s : List UInt8} {n : Nat} (h : sizeF s = some n) : Go.Lib.atoi s = some (n : Int) := by
  rw [sizeF] at h
  split at h
  · cases s with
    | nil => cases h
    | cons a s =>
      have h1 := dec_all (a :: s) 0
      have h2 : Go.Lib.decFrom 0 (a :: s) = some n := h
      rw [h2] at h1
      have h3 : 48 ≤ a.toNat := by
        have := List.all_eq_true.1 h1.symm a (by simp)
        simp only [decide_eq_true_eq] at this; exact this.1
      have h4 : (a == 45) = false := by
        rw [beq_eq_false_iff_ne]; rintro rfl; revert h3; decide
      have h5 : (a == 43) = false := by
        rw [beq_eq_false_iff_ne]; rintro rfl; revert h3; decide
      rw [Go.Lib.atoi]
      simp only [h4, h5, Bool.false_eq_true, if_false, h, Option.map_some]
  · cases h
theorem size_lt {s : List UInt8} {n : Nat} (h : sizeF s = some n) : n < 10000000000 := by
  have key : ∀ (s : List UInt8) (a n : Nat), Go.Lib.decFrom a s = some n → n < (a + 1) * 10 ^ s.length := by
    intro s
    induction s with
    | nil => intro a n h; cases h; simp
    | cons c s ih =>
      intro a n h
      rw [Go.Lib.decFrom] at h
      split at h
      · rename_i d hd
        have h1 := ih _ _ h
        have hd1 : d ≤ 9 := by
          rw [Go.Lib.digitVal] at hd
          split at hd
          · cases hd; omega
          · cases hd
        rw [List.length_cons, Nat.pow_succ]
        have h2 : (a * 10 + d + 1) * 10 ^ s.length ≤ (a + 1) * 10 * 10 ^ s.length := Nat.mul_le_mul_right _ (by omega)
        have h3 : (a + 1) * 10 * 10 ^ s.length = (a + 1) * (10 ^ s.length * 10) := by rw [Nat.mul_assoc, Nat.mul_comm 10]
        omega
      · cases h
  rw [sizeF] at h
  split at h
  · rename_i hl
    rw [Go.Lib.decNat] at h
    split at h
    · cases h
    · have h1 := key _ _ _ h
      have h2 : 10 ^ s.length ≤ 10 ^ 10 := Nat.pow_le_pow_right (by decide) hl
      have h3 : (10 : Nat) ^ 10 = 10000000000 := by decide
      omega
  · cases h
/-- A word begun, and the words behind it. -/
def pre1 (w : List UInt8) : List (List UInt8) → List (List UInt8)
  | [] => [w]
  | a :: r => (w ++ a) :: r
theorem pre1_nil (ls : List (List UInt8)) (h : ls ≠ []) : pre1 [] ls = ls := by cases ls with | nil => exact absurd rfl h | cons a r => rfl
theorem pre1_sp (w : List UInt8) (c a : UInt8) (r : List UInt8) : pre1 w (spF c (a :: r)) = if a = c then w :: pre1 [] (spF c r) else pre1 (w ++ [a]) (spF c r) := by
  rw [spF]
  split
  · rw [pre1_nil _ (spF_ne c r)]; simp [pre1]
  · cases h : spF c r with
    | nil => exact absurd h (spF_ne c r)
    | cons x xs => simp [pre1]
def turnB (c : UInt8) : UInt8 := if (65 ≤ c ∧ c ≤ 90) ∨ (97 ≤ c ∧ c ≤ 122) then c ^^^ 32 else c
def turnF (l : List UInt8) : List UInt8 := l.map turnB
theorem turn_all : ((List.range 256).all fun n => lowB (turnB (UInt8.ofNat n)) == lowB (UInt8.ofNat n)) = true := by decide +kernel
theorem turn_low (l : List UInt8) : lowerF (turnF l) = lowerF l := by
  simp only [lowerF, turnF, List.map_map]
  apply List.map_congr_left
  intro c _
  have h := List.all_eq_true.1 turn_all c.toNat (List.mem_range.2 (by have := c.toNat_lt; omega))
  rw [UInt8.ofNat_toNat] at h
  exact eq_of_beq h
def GET : List UInt8 := [71, 69, 84]
def SLA : List UInt8 := [47, 97]
def ofF (minor : Int) (name value : List UInt8) : HeadV := ⟨GET, SLA, minor, [(name, value)]⟩
def L10 : List UInt8 := [71, 69, 84, 32, 47, 97, 32, 72, 84, 84, 80, 47, 49, 46, 48]
theorem L10_sp : spF 32 L10 = [GET, SLA, [72, 84, 84, 80, 47, 49, 46, 48]] := by decide +kernel
theorem blank_parse (name value x z : List UInt8) (h : writeOk (ofF 0 name value) = true) (hv : value.length ≤ 2000) (hx : x.all blankF = true) (hz : z.all blankF = true) (hx2 : x.length ≤ 20) (hz2 : z.length ≤ 20) :
    parseF (L10 ++ 13 :: 10 :: ((name ++ 58 :: (x ++ (value ++ z))) ++ [13, 10, 13, 10])) = (ofF 0 name value, 200) := by
  simp only [writeOk, okF, ofF, Bool.and_eq_true, decide_eq_true_eq, List.all_cons, List.all_nil, fieldOk] at h
  obtain ⟨⟨⟨_, hf, _⟩, hh⟩, _⟩ := h
  obtain ⟨f1, f2⟩ := hf
  obtain ⟨w1, w2, w3, w4⟩ := word_cl f1
  obtain ⟨v1, v2⟩ := value_cl f2
  have hlen : name.length ≤ 64 := by simp only [wordF, Bool.and_eq_true, decide_eq_true_eq] at f1; omega
  have bl : ∀ l : List UInt8, l.all blankF = true → l.any crlf = false := fun l hl => all_not l hl fun c hc => by
    simp only [blankF, Bool.or_eq_true, decide_eq_true_eq] at hc
    rcases hc with rfl | rfl <;> decide
  have hcr : (name ++ 58 :: (x ++ (value ++ z))).any crlf = false := by
    rw [List.any_append, w2, List.any_cons, List.any_append, bl x hx, List.any_append, v1, bl z hz]; decide
  have hl : linesF (L10 ++ 13 :: 10 :: ((name ++ 58 :: (x ++ (value ++ z))) ++ [13, 10, 13, 10])) = some [L10, name ++ 58 :: (x ++ (value ++ z))] := by
    rw [linesF_app _ (by decide +kernel) (by decide), linesF_app (l := name ++ 58 :: (x ++ (value ++ z))) [13, 10] hcr (by simp), linesF_end]
    rfl
  have hL : L10.length = 15 := rfl
  rw [parseF, if_neg (by simp only [List.length_append, List.length_cons, List.length_nil, hL]; omega), hl]
  simp only
  have hfs : fieldsF [name ++ 58 :: (x ++ (value ++ z))] 0 = .inr [(name, value)] := by
    rw [fieldsF, if_neg (by omega), cutC_app _ w4]
    simp only [trim_app _ _ _ hx hz, v2, f1, f2, Bool.and_self, if_true, fieldsF]
  rw [headF, L10_sp]
  simp only [hfs]
  rw [if_neg (by decide +kernel), if_neg (by decide +kernel), if_neg (by decide +kernel), if_neg (by decide +kernel), if_neg (by decide +kernel)]
  have hm : (((([72, 84, 84, 80, 47, 49, 46, 48] : List UInt8).getD 7 0 - 48).toNat : Nat) : Int) = 0 := by decide
  rw [hm, if_pos hh]
  rfl
theorem blank_field (name value : List UInt8) : fieldF [(name, value)] (turnF name) = (value, 1) := by
  simp [fieldF, allF, turn_low]
theorem cutCR_none {l : List UInt8} (h : l.any crlf = false) : cutCR l = none := by
  induction l with
  | nil => rfl
  | cons c l ih =>
    have hc : crlf c = false := by simp at h; exact h.1
    have h1 : l.any crlf = false := by simp at h; simpa using h.2
    have h2 : ¬ c = 13 := by intro h3; subst h3; cases hc
    rw [cutCR, if_neg (fun h3 => h2 h3.1), ih h1]; rfl
theorem cutCR_app2 {l : List UInt8} (r : List UInt8) (h : l.any (fun c => c == 13) = false) : cutCR (l ++ 13 :: 10 :: r) = some (l, r) := by
  induction l with
  | nil => simp [cutCR]
  | cons c l ih =>
    have h2 : ¬ c = 13 := by simp at h; exact h.1
    have h1 : l.any (fun c => c == 13) = false := by simp at h; simpa using h.2
    rw [List.cons_append, cutCR, if_neg (fun h3 => h2 h3.1), ih h1]; rfl
theorem linesF_bad {l : List UInt8} (r : List UInt8) (h : l.any (fun c => c == 13) = false) (h2 : l.any crlf = true) : linesF (l ++ 13 :: 10 :: r) = none := by
  have h1 := cutCR_app2 r h
  rw [linesF]
  split
  · rfl
  · rename_i a b h3
    rw [h1] at h3
    cases h3
    rw [if_pos h2]
theorem blank_bad (name value : List UInt8) (h : writeOk (ofF 0 name value) = true) (hv : value.length ≤ 2000) :
    parseF (L10 ++ 13 :: 10 :: ((name ++ 58 :: 10 :: value) ++ [13, 10, 13, 10])) = (.zero, 400) := by
  simp only [writeOk, okF, ofF, Bool.and_eq_true, decide_eq_true_eq, List.all_cons, List.all_nil, fieldOk] at h
  obtain ⟨⟨⟨_, hf, _⟩, hh⟩, _⟩ := h
  obtain ⟨f1, f2⟩ := hf
  obtain ⟨w1, w2, w3, w4⟩ := word_cl f1
  obtain ⟨v1, v2⟩ := value_cl f2
  have hlen : name.length ≤ 64 := by simp only [wordF, Bool.and_eq_true, decide_eq_true_eq] at f1; omega
  have cr : ∀ l : List UInt8, l.any crlf = false → l.any (fun c => c == 13) = false := by
    intro l hl
    rw [List.any_eq_false] at hl ⊢
    intro c hc h13
    exact hl c hc (by simp only [beq_iff_eq] at h13; subst h13; decide)
  have hL : L10.length = 15 := rfl
  rw [parseF, if_neg (by simp only [List.length_append, List.length_cons, List.length_nil, hL]; omega)]
  rw [linesF_app _ (by decide +kernel) (by decide), linesF_bad (l := name ++ 58 :: 10 :: value) [13, 10] (by rw [List.any_append, cr _ w2, List.any_cons, List.any_cons, cr _ v1]; decide) (by rw [List.any_append, List.any_cons, List.any_cons]; simp [crlf])]
  rfl
/-- A number's digits. -/
def decF (n : Nat) : List UInt8 := if n < 10 then [UInt8.ofNat (48 + n)] else decF (n / 10) ++ [UInt8.ofNat (48 + n % 10)]
theorem decFrom_app (a : List UInt8) (c : UInt8) (k n m : Nat) (d : Nat) (h : Go.Lib.decFrom k a = some n) (hd : Go.Lib.digitVal c = some d) (hm : m = n * 10 + d) : Go.Lib.decFrom k (a ++ [c]) = some m := by
  induction a generalizing k with
  | nil => cases h; rw [List.nil_append, Go.Lib.decFrom, hd, hm]; rfl
  | cons x a ih =>
    rw [List.cons_append, Go.Lib.decFrom]
    rw [Go.Lib.decFrom] at h
    split at h
    · rename_i e he; exact ih _ h
    · cases h
theorem digit_c : ∀ n : Fin 10, Go.Lib.digitVal (UInt8.ofNat (48 + n.val)) = some n.val := by decide +kernel
theorem decF_num (n : Nat) : Go.Lib.decFrom 0 (decF n) = some n ∧ decF n ≠ [] ∧ (∀ k, n < 10 ^ (k + 1) → (decF n).length ≤ k + 1) := by
  induction n using Nat.strongRecOn with
  | _ n ih =>
    rw [decF]
    split
    · rename_i h
      refine ⟨?_, by simp, fun k _ => by simp⟩
      have := digit_c ⟨n, h⟩
      rw [Go.Lib.decFrom, this]; simp [Go.Lib.decFrom]
    · rename_i h
      obtain ⟨i1, i2, i3⟩ := ih (n / 10) (by omega)
      refine ⟨decFrom_app _ _ 0 _ _ (n % 10) i1 (digit_c ⟨n % 10, by omega⟩) (by omega), by simp, fun k hk => ?_⟩
      cases k with
      | zero => simp at hk; omega
      | succ k =>
        have := i3 k (by rw [Nat.pow_succ] at hk; omega)
        simp only [List.length_append, List.length_cons, List.length_nil]; omega
theorem size_dec (n : Nat) (h : n ≤ 1073741824) : sizeF (decF n) = some n := by
  obtain ⟨i1, i2, i3⟩ := decF_num n
  have h1 := i3 9 (by have : (10 : Nat) ^ 10 = 10000000000 := by decide
                      omega)
  rw [sizeF, if_pos h1, Go.Lib.decNat]
  cases hd : decF n with
  | nil => exact absurd hd i2
  | cons a r => rw [hd] at i1; simpa using i1
def CL1 : List UInt8 := [67, 111, 110, 116, 101, 110, 116, 45, 76, 101, 110, 103, 116, 104]
def CL2 : List UInt8 := [67, 79, 78, 84, 69, 78, 84, 45, 108, 101, 110, 103, 116, 104]
def TE1 : List UInt8 := [84, 114, 97, 110, 115, 102, 101, 114, 45, 69, 110, 99, 111, 100, 105, 110, 103]
theorem len1 (n : Nat) (h : n ≤ 1073741824) : lengthF [(CL1, decF n)] = if 65535 < n then (0, 413) else ((n : Int), 200) := by
  have h1 : ¬ lowerF CL1 = lowerF TENC := by decide +kernel
  have h2 : lowerF CL1 = lowerF CLEN := by decide +kernel
  have h3 : fieldF [(CL1, decF n)] TENC = ([], 0) := by simp [fieldF, allF, h1]
  have h4 : allF [(CL1, decF n)] CLEN = [decF n] := by simp [allF, h2]
  rw [lengthF, h3, h4]
  simp [size_dec n h]
theorem len2 (n : Nat) (h : n ≤ 1073741824) (other : List UInt8) : (lengthF [(CL1, decF n), (CL2, other)]).2 = if other = decF n then (if 65535 < n then 413 else 200) else 400 := by
  have h1 : ¬ lowerF CL1 = lowerF TENC := by decide +kernel
  have h1b : ¬ lowerF CL2 = lowerF TENC := by decide +kernel
  have h2 : lowerF CL1 = lowerF CLEN := by decide +kernel
  have h2b : lowerF CL2 = lowerF CLEN := by decide +kernel
  have h3 : fieldF [(CL1, decF n), (CL2, other)] TENC = ([], 0) := by simp [fieldF, allF, h1, h1b]
  have h4 : allF [(CL1, decF n), (CL2, other)] CLEN = [decF n, other] := by simp [allF, h2, h2b]
  rw [lengthF, h3, h4]
  by_cases ho : other = decF n
  · simp only [ho, List.all_cons, List.all_nil, size_dec n h]
    by_cases hb : 65535 < n <;> simp [hb]
  · simp [ho]
theorem len3 (t other v : List UInt8) : (lengthF [(CL1, t), (CL2, other), (TE1, v)]).2 = 501 := by
  have h1 : lowerF TE1 = lowerF TENC := by decide +kernel
  have h3 : 0 < (fieldF [(CL1, t), (CL2, other), (TE1, v)] TENC).2 := by
    simp only [fieldF, allF, List.length_map]
    have : (TE1, v) ∈ [(CL1, t), (CL2, other), (TE1, v)].filter (fun f => decide (lowerF f.1 = lowerF TENC)) := by simp [h1]
    exact List.length_pos_of_mem this
  rw [lengthF, if_pos h3]

end Go.Proofs.YtlkdmbpbjhjkfaaGreatDoor
