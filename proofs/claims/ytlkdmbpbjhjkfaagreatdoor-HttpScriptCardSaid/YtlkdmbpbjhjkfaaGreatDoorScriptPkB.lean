/- The parts of the proof that this law needs, in the order of their texts: the logic of walks, the plain laws, the walks. -/
import Derived.Test.YtlkdmbpbjhjkfaaGreatDoorScriptPkA
namespace Go.Proofs.YtlkdmbpbjhjkfaaGreatDoor
set_option linter.unusedVariables false
set_option linter.unusedSimpArgs false
set_option maxRecDepth 100000
open Go
def cutCR : List UInt8 → Option (List UInt8 × List UInt8)
  | [] => none
  | c :: r => if c = 13 ∧ r.head? = some 10 then some ([], r.tail) else (cutCR r).map fun p => (c :: p.1, p.2)
def crlf (c : UInt8) : Bool := c = 13 || c = 10
theorem cutCR_len {b l r : List UInt8} (h : cutCR b = some (l, r)) : b = l ++ 13 :: 10 :: r := by
  induction b generalizing l with
  | nil => simp [cutCR] at h
  | cons c b ih =>
    unfold cutCR at h
    split at h
    · rename_i h1
      obtain ⟨rfl, h2⟩ := h1
      cases b with
      | nil => simp at h2
      | cons d b => simp at h2; subst h2; simp at h; obtain ⟨rfl, rfl⟩ := h; rfl
    · cases hc : cutCR b with
      | none => rw [hc] at h; simp at h
      | some p =>
        rw [hc] at h
        simp at h
        obtain ⟨rfl, rfl⟩ := h
        rw [ih (l := p.1) (by rw [hc])]
        rfl
def linesF (b : List UInt8) : Option (List (List UInt8)) :=
  match h : cutCR b with
  | none => none
  | some (l, r) => if l.any crlf then none else if l = [] then (if r = [] then some [] else none) else (linesF r).map (l :: ·)
termination_by b.length
decreasing_by (have := cutCR_len h; rw [this]; simp; omega)
def lnF (line : List UInt8) : List UInt8 → Option (List (List UInt8))
  | [] => if line = [] then some [] else none
  | c :: r => if c ≠ 13 ∧ c ≠ 10 then lnF (line ++ [c]) r else if c = 10 ∨ r.head? ≠ some 10 then none else (lnF [] r.tail).map (line :: ·)
termination_by b => b.length
decreasing_by all_goals (simp; try omega)
theorem lnF_cut (b line : List UInt8) : lnF line b = match cutCR b with
    | none => if b.any crlf then none else if line ++ b = [] then some [] else none
    | some (l, r) => if l.any crlf then none else (lnF [] r).map ((line ++ l) :: ·) := by
  induction b generalizing line with
  | nil => simp [lnF, cutCR]
  | cons c b ih =>
    rw [lnF]
    by_cases hc : c ≠ 13 ∧ c ≠ 10
    · rw [if_pos hc, ih]
      have h1 : ¬ (c = 13 ∧ b.head? = some 10) := fun h => hc.1 h.1
      have hcr : crlf c = false := by simp [crlf, hc.1, hc.2]
      conv => rhs; rw [cutCR, if_neg h1]
      cases hb : cutCR b with
      | none => simp [hcr]
      | some p => simp [hcr]
    · rw [if_neg hc]
      by_cases h2 : c = 10 ∨ b.head? ≠ some 10
      · rw [if_pos h2]
        have h1 : ¬ (c = 13 ∧ b.head? = some 10) := by
          rintro ⟨rfl, h3⟩
          rcases h2 with h2 | h2
          · cases h2
          · exact h2 h3
        have hcr : crlf c = true := by simp [crlf]; by_cases h9 : c = 13 <;> simp_all
        rw [cutCR, if_neg h1]
        cases hb : cutCR b with
        | none => simp [hcr]
        | some p => simp [hcr]
      · have h3 : c = 13 ∧ b.head? = some 10 := by
          have : ¬ c = 10 := fun h => h2 (.inl h)
          have h4 : b.head? = some 10 := by
            apply Classical.byContradiction
            intro h; exact h2 (.inr h)
          exact ⟨Classical.byContradiction fun h => hc ⟨h, this⟩, h4⟩
        rw [if_neg h2, cutCR, if_pos h3]
        simp
def wholeL : List (List UInt8) → Bool
  | [] => false
  | [l] => l = []
  | l :: k :: ls => l ≠ [] && wholeL (k :: ls)
theorem lnF_lines (b : List UInt8) : (match lnF [] b with | none => none | some ls => if wholeL ls = true then some ls else none) = (linesF b).map (· ++ [[]]) := by
  induction b using (measure List.length).wf.induction with
  | _ b ih =>
    rw [lnF_cut, linesF]
    cases hb : cutCR b with
    | none =>
      simp only [List.nil_append]
      by_cases h1 : b.any crlf = true
      · simp [h1]
      · by_cases h2 : b = []
        · subst h2; simp [wholeL]
        · simp [h1, h2]
    | some p =>
      obtain ⟨l, r⟩ := p
      have hlen := cutCR_len hb
      simp only [List.nil_append]
      by_cases h1 : l.any crlf = true
      · simp [h1]
      · rw [if_neg h1]
        have hi := ih r (show r.length < b.length by rw [hlen]; simp; omega)
        simp only [h1, Bool.false_eq_true, if_false]
        by_cases h2 : l = []
        · subst h2
          cases hr : lnF [] r with
          | none =>
            by_cases h3 : r = []
            · subst h3; simp [lnF] at hr
            · simp [h3]
          | some ls =>
            cases ls with
            | nil =>
              have h3 : r = [] := by
                rw [lnF_cut] at hr
                cases hc : cutCR r with
                | none =>
                  rw [hc] at hr
                  simp only [List.nil_append] at hr
                  by_cases h4 : r.any crlf = true
                  · simp [h4] at hr
                  · by_cases h5 : r = []
                    · exact h5
                    · simp [h4, h5] at hr
                | some q =>
                  rw [hc] at hr
                  simp only at hr
                  split at hr
                  · cases hr
                  · cases h6 : lnF [] q.2 <;> rw [h6] at hr <;> simp at hr
              subst h3; simp [wholeL]
            | cons k ls =>
              have h3 : r ≠ [] := by intro h; subst h; simp [lnF] at hr
              simp [h3, wholeL]
        · rw [if_neg h2]
          cases hr : lnF [] r with
          | none =>
            rw [hr] at hi
            cases hq : linesF r with
            | none => simp
            | some q => rw [hq] at hi; simp at hi
          | some ls =>
            rw [hr] at hi
            cases ls with
            | nil =>
              cases hq : linesF r with
              | none => simp [wholeL, h2]
              | some q => rw [hq] at hi; simp [wholeL] at hi
            | cons k ls =>
              simp only [Option.map_some, wholeL, h2, ne_eq, not_false_eq_true, decide_true, Bool.true_and]
              by_cases h4 : wholeL (k :: ls) = true
              · simp only [h4, if_true] at hi ⊢
                cases hq : linesF r with
                | none => rw [hq] at hi; simp at hi
                | some q => rw [hq] at hi; simp at hi ⊢; rw [hi]
              · simp only [h4] at hi ⊢
                cases hq : linesF r with
                | none => simp
                | some q => rw [hq] at hi; simp at hi
theorem cutCR_index (b : List UInt8) : cutCR b = if Lib.index b [13, 10] = -1 then none else some (b.take (Lib.index b [13, 10]).toNat, b.drop ((Lib.index b [13, 10]).toNat + 2)) := by
  induction b with
  | nil => rfl
  | cons c r ih =>
    have hg := Lib.index_ge r [13, 10]
    unfold cutCR Lib.index
    by_cases h : c = 13 ∧ r.head? = some 10
    · obtain ⟨rfl, h2⟩ := h
      cases r with
      | nil => simp at h2
      | cons d r => simp at h2; subst h2; simp [List.isPrefixOf]
    · rw [if_neg h]
      have hp : List.isPrefixOf [13, 10] (c :: r) = false := by
        cases r with
        | nil => simp [List.isPrefixOf]
        | cons d r => simp [List.isPrefixOf] at h ⊢; intro h1 h2; exact h h1.symm h2.symm
      rw [hp, ih]
      by_cases h3 : Lib.index r [13, 10] = -1
      · simp [h3]
      · have h4 : ¬ (Lib.index r [13, 10] == -1) = true := by simpa using h3
        simp only [Bool.false_eq_true, if_false, h3, h4]
        have h5 : ¬ Lib.index r [13, 10] + 1 = -1 := by omega
        rw [if_neg h5]
        have h6 : (Lib.index r [13, 10] + 1).toNat = (Lib.index r [13, 10]).toNat + 1 := by omega
        rw [h6]
        simp [Nat.add_right_comm]
def spF (c : UInt8) : List UInt8 → List (List UInt8)
  | [] => [[]]
  | d :: r => if d = c then [] :: spF c r else match spF c r with
    | [] => [[d]]
    | w :: ws => (d :: w) :: ws
theorem spF_ne (c : UInt8) (l : List UInt8) : spF c l ≠ [] := by
  cases l with
  | nil => simp [spF]
  | cons d r => unfold spF; split <;> (try simp); split <;> simp
theorem index_c (c : UInt8) (l : List UInt8) : (Lib.index l [c] = -1 ∧ l.count c = 0 ∧ spF c l = [l]) ∨ (∃ i : Nat, Lib.index l [c] = i ∧ i < l.length ∧ l.count c = (l.drop (i + 1)).count c + 1 ∧ spF c l = l.take i :: spF c (l.drop (i + 1))) := by
  induction l with
  | nil => left; exact ⟨rfl, rfl, rfl⟩
  | cons d r ih =>
    by_cases h : d = c
    · subst h
      right
      refine ⟨0, by unfold Lib.index; simp [List.isPrefixOf], by simp, by simp, ?_⟩
      rw [spF, if_pos rfl]; simp
    · have hp : List.isPrefixOf [c] (d :: r) = false := by simp [List.isPrefixOf]; exact fun h2 => h h2.symm
      rcases ih with ⟨h1, h2, h3⟩ | ⟨i, h1, h2, h3, h4⟩
      · left
        refine ⟨by unfold Lib.index; rw [hp]; simp [h1], by simp [List.count_cons, h, h2], ?_⟩
        rw [spF, if_neg h, h3]
      · right
        refine ⟨i + 1, ?_, by simp; omega, ?_, ?_⟩
        · unfold Lib.index; rw [hp, h1]
          have : ¬ ((i : Int) == -1) = true := by simp
          simp only [Bool.false_eq_true, if_false]
          rw [if_neg this]; omega
        · rw [List.drop_succ_cons, List.count_cons, h3]; simp [h]
        · rw [spF, if_neg h, h4]; simp
theorem splitK_sp (c : UInt8) (l : List UInt8) : Lib.splitK [c] 0 (l.count c) l = spF c l := by
  induction l using (measure List.length).wf.induction with
  | _ l ih =>
    rcases index_c c l with ⟨h1, h2, h3⟩ | ⟨i, h1, h2, h3, h4⟩
    · rw [h2, h3]; rfl
    · rw [h3, h4]
      unfold Lib.splitK
      have h5 : ¬ (Lib.index l [c] == -1) = true := by rw [h1]; simp
      rw [if_neg h5, h1]
      simp only [Int.toNat_natCast, Nat.add_zero, List.length_singleton]
      rw [ih (l.drop (i + 1)) (show (List.drop _ _).length < _ by simp; omega)]
theorem count_c (c : UInt8) (n : Nat) (l : List UInt8) (h : l.length < n) : Lib.countFrom [c] n l = l.count c := by
  induction n generalizing l with
  | zero => omega
  | succ n ih =>
    unfold Lib.countFrom
    rcases index_c c l with ⟨h1, h2, h3⟩ | ⟨i, h1, h2, h3, h4⟩
    · rw [h1, h2]; rfl
    · have h5 : ¬ (Lib.index l [c] == -1) = true := by rw [h1]; simp
      rw [if_neg h5, h1, h3]
      simp only [Int.toNat_natCast, List.length_singleton]
      rw [ih _ (by simp; omega)]; omega
def blankF (c : UInt8) : Bool := c = 9 || c = 32
theorem dw_le (p : UInt8 → Bool) (l : List UInt8) : (l.dropWhile p).length ≤ l.length := by
  induction l with
  | nil => simp
  | cons c l ih => rw [List.dropWhile_cons]; split <;> simp; omega
def tl (p : UInt8 → Bool) (l : List UInt8) : List UInt8 := l.dropWhile p
def tr (p : UInt8 → Bool) (l : List UInt8) : List UInt8 := (l.reverse.dropWhile p).reverse
theorem tr_snoc (p : UInt8 → Bool) (l : List UInt8) (c : UInt8) : tr p (l ++ [c]) = if p c then tr p l else l ++ [c] := by
  unfold tr
  rw [List.reverse_append]
  simp only [List.reverse_cons, List.reverse_nil, List.nil_append, List.singleton_append, List.dropWhile_cons]
  split <;> simp
theorem tl_snoc (p : UInt8 → Bool) (l : List UInt8) (c : UInt8) : tl p (l ++ [c]) = if tl p l = [] then (if p c then [] else [c]) else tl p l ++ [c] := by
  induction l with
  | nil => simp [tl, List.dropWhile_cons]
  | cons d l ih =>
    unfold tl at ih ⊢
    simp only [List.cons_append, List.dropWhile_cons]
    split
    · exact ih
    · simp
theorem snoc_cases (l : List UInt8) : l = [] ∨ ∃ k c, l = k ++ [c] := by
  rcases List.eq_nil_or_concat l with h | ⟨k, c, h⟩
  · exact .inl h
  · exact .inr ⟨k, c, by simpa using h⟩
theorem tl_tr (p : UInt8 → Bool) (l : List UInt8) : tl p (tr p l) = tr p (tl p l) := by
  induction l using (measure List.length).wf.induction with
  | _ l ih =>
    rcases snoc_cases l with rfl | ⟨k, c, rfl⟩
    · rfl
    · rw [tr_snoc, tl_snoc]
      have hk := ih k (show k.length < (k ++ [c]).length by simp)
      by_cases hc : p c = true
      · rw [if_pos hc, hk]
        by_cases h2 : tl p k = []
        · rw [if_pos h2, if_pos hc, h2]
        · rw [if_neg h2, tr_snoc, if_pos hc]
      · rw [if_neg hc, tl_snoc]
        by_cases h2 : tl p k = []
        · rw [if_pos h2, if_neg hc]
          have := tr_snoc p [] c
          rw [if_neg hc] at this
          exact this.symm
        · rw [if_neg h2, tr_snoc, if_neg hc]
def trimF (l : List UInt8) : List UInt8 := tr blankF (tl blankF l)
theorem trim_set (l : List UInt8) : Lib.trimS l [9, 32] = trimF l := by
  have h : (fun c => ([9, 32] : List UInt8).contains c) = blankF := by
    funext c
    simp [blankF, List.contains_cons]
  unfold Lib.trimS Lib.trimLeftS Lib.trimRightS trimF
  rw [h]
  exact tl_tr blankF l
theorem tl_all (p : UInt8 → Bool) (l : List UInt8) : tl p l = [] ↔ l.all p = true := by
  induction l with
  | nil => simp [tl]
  | cons c l ih =>
    unfold tl at ih ⊢
    rw [List.dropWhile_cons]
    split
    · rename_i h; rw [ih]; simp [h]
    · rename_i h; simp [h]
theorem trim_digits (l cs : List UInt8) : Lib.trimS l cs = [] ↔ l.all (fun c => cs.contains c) = true := by
  have h : Lib.trimS l cs = tl (fun c => cs.contains c) (tr (fun c => cs.contains c) l) := rfl
  rw [h, tl_tr]
  constructor
  · intro h2
    apply (tl_all _ _).1
    rcases snoc_cases (tl (fun c => cs.contains c) l) with h3 | ⟨k, c, h3⟩
    · exact h3
    · exfalso
      -- what is left begins with a byte that is none
      have hne : ∀ k : List UInt8, k.all (fun c => cs.contains c) = false → tr (fun c => cs.contains c) k ≠ [] := by
        intro k hk h9
        unfold tr at h9
        rw [List.reverse_eq_nil_iff] at h9
        have := (tl_all (fun c => cs.contains c) k.reverse).1 h9
        rw [List.all_reverse] at this
        rw [this] at hk; cases hk
      have hd : ∀ m : List UInt8, tl (fun c => cs.contains c) m ≠ [] → (tl (fun c => cs.contains c) m).all (fun c => cs.contains c) = false := by
        intro m hm
        induction m with
        | nil => exact absurd rfl hm
        | cons d m ih =>
          unfold tl at ih hm ⊢
          rw [List.dropWhile_cons] at hm ⊢
          split at hm
          · rename_i hd; rw [if_pos hd]; exact ih hm
          · rename_i hd; rw [if_neg hd]; simp at hd; simp [hd]
      exact hne _ (hd l (by rw [h3]; simp)) h2
  · intro h2
    rw [(tl_all _ _).2 h2]; rfl
def lowB (c : UInt8) : UInt8 := if 65 ≤ c ∧ c ≤ 90 then c + 32 else c
def lowerF (l : List UInt8) : List UInt8 := l.map lowB
def valCh (c : UInt8) : Bool := !(c ≠ 9 && c < 32) && c ≠ 127
def valueF (l : List UInt8) : Bool := l.all valCh && decide (trimF l = l)
theorem trim_same (l : List UInt8) : trimF l = l ↔ (l = [] ∨ (blankF (l.getD 0 0) = false ∧ blankF (l.getD (l.length - 1) 0) = false)) := by
  constructor
  · intro h
    by_cases h0 : l = []
    · exact .inl h0
    · right
      have hlen : (tl blankF l).length ≤ l.length := by unfold tl; exact dw_le _ _
      have hlen2 : (tr blankF (tl blankF l)).length ≤ (tl blankF l).length := by unfold tr; rw [List.length_reverse]; exact Nat.le_trans (dw_le _ _) (by simp)
      have e : (tr blankF (tl blankF l)).length = l.length := by show (trimF l).length = _; rw [h]
      constructor
      · cases l with
        | nil => exact absurd rfl h0
        | cons c l =>
          show blankF c = false
          cases hb : blankF c with
          | false => rfl
          | true =>
            exfalso
            have : tl blankF (c :: l) = tl blankF l := by unfold tl; rw [List.dropWhile_cons, if_pos hb]
            have h3 : (tl blankF l).length ≤ l.length := by unfold tl; exact dw_le _ _
            rw [this] at hlen2 e
            simp at e; omega
      · rcases snoc_cases l with h1 | ⟨k, c, rfl⟩
        · exact absurd h1 h0
        · have : (k ++ [c]).getD ((k ++ [c]).length - 1) 0 = c := by simp
          rw [this]
          cases hb : blankF c with
          | false => rfl
          | true =>
            exfalso
            have h2 : trimF (k ++ [c]) = tl blankF (tr blankF (k ++ [c])) := (tl_tr _ _).symm
            rw [tr_snoc, if_pos hb] at h2
            have h3 : (tl blankF (tr blankF k)).length ≤ k.length := by
              refine Nat.le_trans (dw_le _ _) ?_
              unfold tr; rw [List.length_reverse]; exact Nat.le_trans (dw_le _ _) (by simp)
            rw [← h2, h] at h3
            simp at h3; omega
  · rintro (rfl | ⟨h1, h2⟩)
    · rfl
    · have ha : tl blankF l = l := by
        cases l with
        | nil => rfl
        | cons c l => unfold tl; rw [List.dropWhile_cons, if_neg (by rw [show blankF c = false from h1]; simp)]
      unfold trimF
      rw [ha]
      rcases snoc_cases l with rfl | ⟨k, c, rfl⟩
      · rfl
      · have : (k ++ [c]).getD ((k ++ [c]).length - 1) 0 = c := by simp
        rw [this] at h2
        rw [tr_snoc, if_neg (by rw [h2]; simp)]
def LET : List UInt8 := [48, 49, 50, 51, 52, 53, 54, 55, 56, 57, 65, 66, 67, 68, 69, 70, 71, 72, 73, 74, 75, 76, 77, 78, 79, 80, 81, 82, 83, 84, 85, 86, 87, 88, 89, 90, 97, 98, 99, 100, 101, 102, 103, 104, 105, 106, 107, 108, 109, 110, 111, 112, 113, 114, 115, 116, 117, 118, 119, 120, 121, 122, 33, 35, 36, 37, 38, 39, 42, 43, 45, 46, 94, 95, 96, 124, 126]
def letterF (c : UInt8) : Bool :=
  decide ((((48 ≤ c.toNat ∧ c.toNat ≤ 57) ∨ (65 ≤ c.toNat ∧ c.toNat ≤ 90)) ∨ (97 ≤ c.toNat ∧ c.toNat ≤ 122)) ∨
    (c.toNat = 33 ∨ (35 ≤ c.toNat ∧ c.toNat ≤ 39) ∨ c.toNat = 42 ∨ c.toNat = 43 ∨ c.toNat = 45 ∨ c.toNat = 46 ∨ (94 ≤ c.toNat ∧ c.toNat ≤ 96) ∨ c.toNat = 124 ∨ c.toNat = 126))
theorem let_all : ((List.range 256).all fun n => letterF (UInt8.ofNat n) == LET.contains (UInt8.ofNat n)) = true := by decide +kernel
theorem let_eq (c : UInt8) : letterF c = LET.contains c := by
  have h := List.all_eq_true.1 let_all c.toNat (List.mem_range.2 (by have := c.toNat_lt; omega))
  rw [UInt8.ofNat_toNat] at h
  exact eq_of_beq h
def wordF (s : List UInt8) (most : Int) : Bool := decide (1 ≤ s.length ∧ (s.length : Int) ≤ most) && s.all letterF
def targetF (s : List UInt8) : Bool := decide (s.head? = some 47) && s.all fun c => decide (33 ≤ c.toNat ∧ c.toNat ≤ 126)
def allF (fs : List (List UInt8 × List UInt8)) (name : List UInt8) : List (List UInt8) := (fs.filter fun f => lowerF f.1 = lowerF name).map (·.2)
def fieldF (fs : List (List UInt8 × List UInt8)) (name : List UInt8) : List UInt8 × Nat := ((allF fs name).headD [], (allF fs name).length)
def HOST : List UInt8 := [104, 111, 115, 116]
def hostsF (fs : List (List UInt8 × List UInt8)) (minor : Int) : Bool := decide ((fieldF fs HOST).2 = 1 ∨ ((fieldF fs HOST).2 = 0 ∧ minor = 0))
abbrev Fld := List UInt8 × List UInt8
structure HeadV where
  m : List UInt8
  t : List UInt8
  minor : Int
  fs : List Fld
deriving DecidableEq
def HeadV.zero : HeadV := ⟨[], [], 0, []⟩
def fieldOk (f : Fld) : Bool := wordF f.1 64 && valueF f.2
def okF (h : HeadV) : Bool :=
  wordF h.m 16 && decide (h.t.length ≤ 2048) && targetF h.t && decide (0 ≤ h.minor ∧ h.minor ≤ 1) && decide (h.fs.length ≤ 32) && h.fs.all fieldOk && hostsF h.fs h.minor
def HTTP1 : List UInt8 := [72, 84, 84, 80, 47, 49, 46]
def fieldB (f : Fld) : List UInt8 := f.1 ++ 58 :: 32 :: f.2
def fieldsB : List Fld → List UInt8
  | [] => [13, 10]
  | f :: fs => fieldB f ++ 13 :: 10 :: fieldsB fs
def lineB (h : HeadV) : List UInt8 := h.m ++ 32 :: (h.t ++ 32 :: (HTTP1 ++ [UInt8.ofNat (48 + h.minor.toNat)]))
def headB (h : HeadV) : List UInt8 := lineB h ++ 13 :: 10 :: fieldsB h.fs
def cutC (c : UInt8) : List UInt8 → Option (List UInt8 × List UInt8)
  | [] => none
  | a :: r => if a = c then some ([], r) else (cutC c r).map fun p => (a :: p.1, p.2)
def verF (v : List UInt8) : Bool :=
  decide (v.length = 8) && decide (v.take 5 = [72, 84, 84, 80, 47]) && decide (48 ≤ v.getD 5 0 ∧ v.getD 5 0 ≤ 57) && decide (v.getD 6 0 = 46) && decide (48 ≤ v.getD 7 0 ∧ v.getD 7 0 ≤ 57)
def fieldsF : List (List UInt8) → Nat → Int ⊕ List Fld
  | [], _ => .inr []
  | x :: r, n => if n = 32 then .inl 431 else
    match cutC 58 x with
    | none => .inl 400
    | some (k, v) => if wordF k 64 && valueF (trimF v) then
        (match fieldsF r (n + 1) with | .inl s => .inl s | .inr fs => .inr ((k, trimF v) :: fs))
      else .inl 400
def headF (l0 : List UInt8) (ls : List (List UInt8)) : HeadV × Int :=
  match spF 32 l0 with
  | [m, t, v] =>
    if m = [] ∨ t = [] ∨ v = [] ∨ wordF m 16 = false then (.zero, 400)
    else if verF v = false then (.zero, 400)
    else if v.getD 5 0 ≠ 49 ∨ 49 < v.getD 7 0 then (.zero, 505)
    else if 2048 < t.length then (.zero, 414)
    else if targetF t = false then (.zero, 400)
    else match fieldsF ls 0 with
      | .inl s => (.zero, s)
      | .inr fs => if hostsF fs ((v.getD 7 0 - 48).toNat : Int) then (⟨m, t, ((v.getD 7 0 - 48).toNat : Int), fs⟩, 200) else (.zero, 400)
  | _ => (.zero, 400)
def parseF (b : List UInt8) : HeadV × Int :=
  if 4096 < b.length then (.zero, 431)
  else match linesF b with
    | none => (.zero, 400)
    | some [] => (.zero, 400)
    | some (l0 :: ls) => headF l0 ls
theorem linesF_len {b : List UInt8} {ls : List (List UInt8)} (h : linesF b = some ls) : b.length = ((ls.map fun l => l.length + 2).sum) + 2 := by
  induction b using (measure List.length).wf.induction generalizing ls with
  | _ b ih =>
    rw [linesF] at h
    split at h
    · cases h
    · rename_i l r hc
      have hb := cutCR_len hc
      split at h
      · cases h
      · split at h
        · rename_i h1 h2
          split at h
          · rename_i h3
            cases h; subst h3; subst h2; rw [hb]; rfl
          · cases h
        · cases hr : linesF r with
          | none => rw [hr] at h; cases h
          | some ks =>
            rw [hr] at h
            cases h
            have := ih r (show r.length < b.length by rw [hb]; simp; omega) hr
            rw [hb]
            simp only [List.length_append, List.length_cons, List.map_cons, List.sum_cons, this]
            omega
theorem cutC_len {c : UInt8} {x l r : List UInt8} (h : cutC c x = some (l, r)) : x = l ++ c :: r := by
  induction x generalizing l with
  | nil => simp [cutC] at h
  | cons a x ih =>
    unfold cutC at h
    split at h
    · rename_i h1; subst h1; cases h; rfl
    · cases hc : cutC c x with
      | none => rw [hc] at h; cases h
      | some p => rw [hc] at h; cases h; rw [ih (l := p.1) (by rw [hc])]; rfl
theorem trimF_le (l : List UInt8) : (trimF l).length ≤ l.length := by
  have h1 := dw_le blankF l
  have h2 := dw_le blankF (l.dropWhile blankF).reverse
  simp only [trimF, tl, tr, List.length_reverse] at *
  omega
theorem fields_of (ls : List (List UInt8)) (n : Nat) (fs : List Fld) (hn : n ≤ 32) (h : fieldsF ls n = .inr fs) :
    fs.all fieldOk = true ∧ n + fs.length ≤ 32 ∧ (fieldsB fs).length ≤ (ls.map fun l => l.length + 2).sum + 2 + fs.length := by
  induction ls generalizing n fs with
  | nil => cases h; simp [fieldsB, hn]
  | cons x ls ih =>
    rw [fieldsF] at h
    split at h
    · cases h
    · rename_i hne
      split at h
      · cases h
      · rename_i k v hc
        split at h
        · rename_i hok
          cases hr : fieldsF ls (n + 1) with
          | inl s => rw [hr] at h; cases h
          | inr gs =>
            rw [hr] at h
            cases h
            obtain ⟨i1, i2, i3⟩ := ih (n + 1) gs (by omega) hr
            have hx := cutC_len hc
            have hv := trimF_le v
            refine ⟨?_, ?_, ?_⟩
            · rw [List.all_cons, i1, fieldOk]; simp only [hok, Bool.and_self]
            · simp only [List.length_cons]; omega
            · simp only [fieldsB, fieldB, List.length_append, List.length_cons, List.map_cons, List.sum_cons, hx]
              omega
        · cases h
theorem spF_join {c : UInt8} {l : List UInt8} {a b d : List UInt8} (h : spF c l = [a, b, d]) : l = a ++ c :: (b ++ c :: d) := by
  have one : ∀ (l a : List UInt8) (r : List (List UInt8)), spF c l = a :: r → (r = [] ∧ l = a) ∨ (∃ k, l = a ++ c :: k ∧ spF c k = r) := by
    intro l
    induction l with
    | nil => intro a r h; simp [spF] at h; exact .inl ⟨h.2, h.1.symm⟩
    | cons x l ih =>
      intro a r h
      rw [spF] at h
      split at h
      · rename_i h1; cases h; subst h1; exact .inr ⟨l, rfl, rfl⟩
      · cases hl : spF c l with
        | nil => exact absurd hl (spF_ne c l)
        | cons y ys =>
          rw [hl] at h
          simp at h
          obtain ⟨rfl, rfl⟩ := h
          rcases ih y ys hl with ⟨h1, h2⟩ | ⟨k, h1, h2⟩
          · exact .inl ⟨h1, by rw [h2]⟩
          · exact .inr ⟨k, by rw [h1]; rfl, h2⟩
  rcases one l a _ h with ⟨h1, _⟩ | ⟨k, h1, h2⟩
  · cases h1
  · rcases one k b _ h2 with ⟨h3, _⟩ | ⟨j, h3, h4⟩
    · cases h3
    · rcases one j d _ h4 with ⟨_, h5⟩ | ⟨i, h5, h6⟩
      · rw [h1, h3, h5]
      · exact absurd h6 (spF_ne c i)
theorem byte_minor : ∀ c : UInt8, (48 ≤ c ∧ c ≤ 57) → ¬ 49 < c → (c - 48).toNat ≤ 1 := by
  intro c h1 h2
  have h3 : c = 48 ∨ c = 49 := by
    have a1 : 48 ≤ c.toNat := h1.1
    have a2 : ¬ 49 < c.toNat := h2
    have : c.toNat = 48 ∨ c.toNat = 49 := by omega
    rcases this with h | h
    · exact .inl (UInt8.toNat_inj.1 h)
    · exact .inr (UInt8.toNat_inj.1 h)
  rcases h3 with rfl | rfl <;> decide
theorem back2 (b : List UInt8) (z : HeadV) (h : parseF b = (z, 200)) : okF z = true ∧ (headB z).length ≤ b.length + 32 := by
  rw [parseF] at h
  split at h
  · cases h
  · split at h
    · cases h
    · cases h
    · rename_i hb l0 ls hl
      rw [headF] at h
      split at h
      · rename_i m t v hsp
        split at h
        · cases h
        · rename_i c1
          split at h
          · cases h
          · rename_i c2
            split at h
            · cases h
            · rename_i c3
              split at h
              · cases h
              · rename_i c4
                split at h
                · cases h
                · rename_i c5
                  split at h
                  · rename_i s hs
                    have : s = 200 := by injection h
                    subst this
                    exfalso
                    revert hs
                    have key : ∀ (ls : List (List UInt8)) (n : Nat), fieldsF ls n ≠ .inl 200 := by
                      intro ls
                      induction ls with
                      | nil => intro n h; cases h
                      | cons x ls ih =>
                        intro n h
                        rw [fieldsF] at h
                        split at h
                        · injection h with h; revert h; decide
                        · split at h
                          · injection h with h; revert h; decide
                          · split at h
                            · split at h
                              · rename_i s hs; injection h with h; subst h; exact ih _ hs
                              · cases h
                            · injection h with h; revert h; decide
                    exact key ls 0
                  · rename_i fs hf
                    split at h
                    · rename_i hh
                      cases h
                      obtain ⟨f1, f2, f3⟩ := fields_of ls 0 fs (by omega) hf
                      have hlen := linesF_len hl
                      have hj := spF_join hsp
                      simp only [verF, Bool.and_eq_false_iff, not_or, Bool.not_eq_false, decide_eq_true_eq] at c2
                      simp only [not_or, Bool.not_eq_false] at c1 c3 c5
                      have hmin := byte_minor _ c2.2 c3.2
                      refine ⟨?_, ?_⟩
                      · simp only [okF, Bool.and_eq_true, decide_eq_true_eq]
                        refine ⟨⟨⟨⟨⟨⟨c1.2.2.2, by omega⟩, c5⟩, by omega⟩, by omega⟩, f1⟩, hh⟩
                      · have hv : v.length = 8 := c2.1.1.1.1
                        have h7 : HTTP1.length = 7 := rfl
                        simp only [headB, lineB, List.length_append, List.length_cons, List.length_nil, List.map_cons, List.sum_cons, h7] at hlen ⊢
                        rw [hj] at hlen
                        simp only [List.length_append, List.length_cons] at hlen
                        omega
                    · cases h
      · cases h
def CLEN : List UInt8 := [99, 111, 110, 116, 101, 110, 116, 45, 108, 101, 110, 103, 116, 104]
def TENC : List UInt8 := [116, 114, 97, 110, 115, 102, 101, 114, 45, 101, 110, 99, 111, 100, 105, 110, 103]
def CONN : List UInt8 := [99, 111, 110, 110, 101, 99, 116, 105, 111, 110]
def CLOSE : List UInt8 := [99, 108, 111, 115, 101]
def ALIVE : List UInt8 := [107, 101, 101, 112, 45, 97, 108, 105, 118, 101]
def sizeF (s : List UInt8) : Option Nat := if s.length ≤ 10 then Go.Lib.decNat s else none
def lengthF (fs : List Fld) : Int × Int :=
  if 0 < (fieldF fs TENC).2 then (0, 501)
  else match allF fs CLEN with
    | [] => (-1, 200)
    | f :: r => if r.all (fun s => decide (s = f)) then
        (match sizeF f with
          | none => (0, 400)
          | some n => if 65535 < n then (0, 413) else ((n : Int), 200))
      else (0, 400)
def wordsF (fs : List Fld) : List (List UInt8) := (allF fs CONN).flatMap fun v => (spF 44 v).map fun x => lowerF (trimF x)
def goesF : Bool → List (List UInt8) → Bool
  | k, [] => k
  | k, w :: r => if w = CLOSE then false else goesF (k || decide (w = ALIVE)) r
def keepF (fs : List Fld) (minor : Int) : Bool := goesF (decide (minor = 1)) (wordsF fs)
theorem dec_all (s : List UInt8) (n : Nat) : (Go.Lib.decFrom n s).isSome = s.all fun c => decide (48 ≤ c.toNat ∧ c.toNat ≤ 57) := by
  induction s generalizing n with
  | nil => rfl
  | cons a s ih =>
    rw [Go.Lib.decFrom, List.all_cons]
    by_cases h : 48 ≤ a.toNat ∧ a.toNat ≤ 57
    · rw [Go.Lib.digitVal, if_pos h]; simp only [ih, h, and_self, decide_true, Bool.true_and]
    · rw [Go.Lib.digitVal, if_neg h]; simp [h]
def DIG : List UInt8 := [48, 49, 50, 51, 52, 53, 54, 55, 56, 57]
theorem dig_all : ((List.range 256).all fun n => (decide (48 ≤ (UInt8.ofNat n).toNat ∧ (UInt8.ofNat n).toNat ≤ 57)) == DIG.contains (UInt8.ofNat n)) = true := by decide +kernel
theorem dig_eq (c : UInt8) : decide (48 ≤ c.toNat ∧ c.toNat ≤ 57) = DIG.contains c := by
  have h := List.all_eq_true.1 dig_all c.toNat (List.mem_range.2 (by have := c.toNat_lt; omega))
  rw [UInt8.ofNat_toNat] at h
  exact eq_of_beq h
theorem size_some (s : List UInt8) : (sizeF s).isSome = (decide (s ≠ []) && decide (s.length ≤ 10) && decide (Go.Lib.trimS s DIG = [])) := by
  rw [sizeF]
  by_cases h : s.length ≤ 10
  · rw [if_pos h, Go.Lib.decNat]
    cases s with
    | nil => rfl
    | cons a s =>
      have h1 : (Go.Lib.trimS (a :: s) DIG = []) ↔ ((a :: s).all fun c => decide (48 ≤ c.toNat ∧ c.toNat ≤ 57)) = true := by
        rw [trim_digits]; simp only [dig_eq]
      simp only [List.isEmpty_cons, Bool.false_eq_true, if_false, dec_all, ne_eq, reduceCtorEq, not_false_eq_true, decide_true, Bool.true_and, h]
      by_cases h2 : ((a :: s).all fun c => decide (48 ≤ c.toNat ∧ c.toNat ≤ 57)) = true
      · rw [h2, decide_eq_true (h1.2 h2)]
      · rw [Bool.not_eq_true] at h2
        rw [h2, decide_eq_false (fun h3 => by rw [h1.1 h3] at h2; cases h2)]
  · rw [if_neg h]; simp [h]
theorem size_atoi {s : List UInt8} {n : Nat} (h : sizeF s = some n) : Go.Lib.atoi s = some (n : Int) := by
  rw [sizeF] at h
  split at h
  · cases s with
    | nil => cases h
    | cons a s =>
      have h1 := dec_all (a :: s) 0
      have h2 : Go.Lib.decFrom 0 (a :: s) = some n := h
      rw [h2] at h1
      have h3 : 48 ≤ a.toNat := by
        have := List.all_eq_true.1 h1.symm a (by simp)
        simp only [decide_eq_true_eq] at this; exact this.1
      have h4 : (a == 45) = false := by
        rw [beq_eq_false_iff_ne]; rintro rfl; revert h3; decide
      have h5 : (a == 43) = false := by
        rw [beq_eq_false_iff_ne]; rintro rfl; revert h3; decide
      rw [Go.Lib.atoi]
      simp only [h4, h5, Bool.false_eq_true, if_false, h, Option.map_some]
  · cases h
theorem size_lt {s : List UInt8} {n : Nat} (h : sizeF s = some n) : n < 10000000000 := by
  have key : ∀ (s : List UInt8) (a n : Nat), Go.Lib.decFrom a s = some n → n < (a + 1) * 10 ^ s.length := by
    intro s
    induction s with
    | nil => intro a n h; cases h; simp
    | cons c s ih =>
      intro a n h
      rw [Go.Lib.decFrom] at h
      split at h
      · rename_i d hd
        have h1 := ih _ _ h
        have hd1 : d ≤ 9 := by
          rw [Go.Lib.digitVal] at hd
          split at hd
          · cases hd; omega
          · cases hd
        rw [List.length_cons, Nat.pow_succ]
        have h2 : (a * 10 + d + 1) * 10 ^ s.length ≤ (a + 1) * 10 * 10 ^ s.length := Nat.mul_le_mul_right _ (by omega)
        have h3 : (a + 1) * 10 * 10 ^ s.length = (a + 1) * (10 ^ s.length * 10) := by rw [Nat.mul_assoc, Nat.mul_comm 10]
        omega
      · cases h
  rw [sizeF] at h
  split at h
  · rename_i hl
    rw [Go.Lib.decNat] at h
    split at h
    · cases h
    · have h1 := key _ _ _ h
      have h2 : 10 ^ s.length ≤ 10 ^ 10 := Nat.pow_le_pow_right (by decide) hl
      have h3 : (10 : Nat) ^ 10 = 10000000000 := by decide
      omega
  · cases h
def pre1 (w : List UInt8) : List (List UInt8) → List (List UInt8)
  | [] => [w]
  | a :: r => (w ++ a) :: r
theorem pre1_nil (ls : List (List UInt8)) (h : ls ≠ []) : pre1 [] ls = ls := by cases ls with | nil => exact absurd rfl h | cons a r => rfl
theorem pre1_sp (w : List UInt8) (c a : UInt8) (r : List UInt8) : pre1 w (spF c (a :: r)) = if a = c then w :: pre1 [] (spF c r) else pre1 (w ++ [a]) (spF c r) := by
  rw [spF]
  split
  · rw [pre1_nil _ (spF_ne c r)]; simp [pre1]
  · cases h : spF c r with
    | nil => exact absurd h (spF_ne c r)
    | cons x xs => simp [pre1]
theorem decFrom_app (a : List UInt8) (c : UInt8) (k n m : Nat) (d : Nat) (h : Go.Lib.decFrom k a = some n) (hd : Go.Lib.digitVal c = some d) (hm : m = n * 10 + d) : Go.Lib.decFrom k (a ++ [c]) = some m := by
  induction a generalizing k with
  | nil => cases h; rw [List.nil_append, Go.Lib.decFrom, hd, hm]; rfl
  | cons x a ih =>
    rw [List.cons_append, Go.Lib.decFrom]
    rw [Go.Lib.decFrom] at h
    split at h
    · rename_i e he; exact ih _ h
    · cases h
end Go.Proofs.YtlkdmbpbjhjkfaaGreatDoor
namespace Go.Proofs.YtlkdmbpbjhjkfaaGreatDoor
set_option linter.unusedVariables false
set_option linter.unusedSimpArgs false
set_option maxRecDepth 100000
def mapTo (f : UInt8 → UInt8) (l : List UInt8) (k : Nat) : List UInt8 := (l.take k).map f ++ l.drop k
theorem mapTo_len (f : UInt8 → UInt8) (l : List UInt8) (k : Nat) : (mapTo f l k).length = l.length := by simp [mapTo]; omega
theorem mapTo_zero (f : UInt8 → UInt8) (l : List UInt8) : mapTo f l 0 = l := by simp [mapTo]
theorem mapTo_all (f : UInt8 → UInt8) (l : List UInt8) : mapTo f l l.length = l.map f := by simp [mapTo]
theorem mapTo_get (f : UInt8 → UInt8) (l : List UInt8) (k : Nat) (h : k < l.length) : (mapTo f l k).getD k 0 = l.getD k 0 := by
  have hl : ((l.take k).map f).length = k := by simp; omega
  simp only [mapTo, List.getD]
  rw [List.getElem?_append_right (by omega), hl, Nat.sub_self, List.getElem?_drop, Nat.add_zero]
theorem mapTo_set (f : UInt8 → UInt8) (l : List UInt8) (k : Nat) (h : k < l.length) : (mapTo f l k).set k (f (l.getD k 0)) = mapTo f l (k + 1) := by
  have hl : ((l.take k).map f).length = k := by simp; omega
  unfold mapTo
  rw [List.set_append_right _ _ (by omega), hl, Nat.sub_self]
  rw [List.drop_eq_getElem_cons h, List.set_cons_zero]
  rw [List.take_succ_eq_append_getElem h, List.map_append]
  simp [List.getD, h]
theorem mapTo_same (f : UInt8 → UInt8) (l : List UInt8) (k : Nat) (h : k < l.length) (hf : f (l.getD k 0) = l.getD k 0) : mapTo f l (k + 1) = mapTo f l k := by
  rw [← mapTo_set f l k h, hf, ← mapTo_get f l k h]
  apply List.ext_getElem (by simp)
  intro i h1 h2
  rw [List.getElem_set]
  split
  · rename_i h3; subst h3; simp [List.getD, h2]
  · rfl
theorem lowB_up {c : UInt8} (h : (65 : Int) ≤ (c.toNat : Int) ∧ (c.toNat : Int) ≤ 90) : lowB c = c + 32 := by
  rw [lowB, if_pos ⟨by show (65 : Nat) ≤ c.toNat; omega, by show c.toNat ≤ 90; omega⟩]
theorem lowB_no {c : UInt8} (h : ¬ ((65 : Int) ≤ (c.toNat : Int) ∧ (c.toNat : Int) ≤ 90)) : lowB c = c := by
  rw [lowB, if_neg]
  rintro ⟨h1, h2⟩
  have h1 : (65 : Nat) ≤ c.toNat := h1
  have h2 : c.toNat ≤ 90 := h2
  omega
theorem add32 {c : UInt8} (h : (65 : Int) ≤ (c.toNat : Int) ∧ (c.toNat : Int) ≤ 90) : IntKind.u8.wrap ((c.toNat : Int) + 32) = ((lowB c).toNat : Int) := by
  rw [lowB_up h, UInt8.toNat_add]
  have h2 : (c.toNat + (32 : UInt8).toNat) % 2 ^ 8 = c.toNat + 32 := by
    rw [show (32 : UInt8).toNat = 32 from rfl]; omega
  rw [h2]
  exact w8 (by omega) (by omega)
set_option maxHeartbeats 400000 in
theorem lower_ok {w0 : World} {base : Nat} {H : List Seg} {l : List UInt8} (hl : l.length ≤ 140737488355000) :
    SCalls Tryz.prog 119 [str l] w0 base (H) (fun v H' => v = str (lowerF l) ∧ H' = H) := by
  refine SCalls.of_walk (n := 29) Tryz.func119 rfl rfl rfl fun cs => ?_
  refine At.seq ?_
  refine At.region ?_
  refine AtL.assign (.inl rfl) rfl rfl ?_
  refine AtL.done ?_
  refine At.seq ?_
  refine At.region ?_
  refine AtL.move (.inl rfl) rfl rfl ?_
  refine AtL.bytesOf (l := l) Tryz.underlying9 Tryz.underlying22 Tryz.underlying5 (by first | omega | (simp only [List.length_append, List.length_cons, List.length_nil]; omega) | (simp; done) | (simp; omega)) (.inl rfl) rfl rfl ?_
  intro A1 C2 s3 n5 o4
  refine AtL.assign (.inl rfl) rfl rfl ?_
  refine AtL.done ?_
  refine At.seq ?_
  refine At.seq ?_
  refine At.region ?_
  refine AtL.move (.inl rfl) rfl rfl ?_
  refine AtL.lenL Tryz.underlying22 (.inl rfl) rfl rfl ?_
  refine AtL.move (.inl rfl) rfl rfl ?_
  refine AtL.done ?_
  refine At.block ?_
  refine At.loop2 (fun (k : Nat) (s2 : Seg) => [(3, .slice A1 (mapTo lowB l k).length C2), (8, .slice A1 (mapTo lowB l k).length C2), (9, .int .i64 (l.length : Int)), (10, .int .i64 (k : Int))]) (fun (k : Nat) (s2 : Seg) => s2 :: H) (fun (k : Nat) (s2 : Seg) => k ≤ l.length ∧ Own tyB 5 A1 (C2) (mapTo lowB l k) s2) (fun (k : Nat) (s2 : Seg) => l.length - k) 0 s3 (⟨Nat.zero_le _, by rw [mapTo_zero]; exact o4⟩) ⟨rfl, rfl, rfl, rfl, trivial⟩ rfl ?_
  rintro k s2 ⟨hk, ho⟩ ihL1
  have hlen := mapTo_len lowB l k
  have hcap := Own.cap_le ho
  have hle := Own.le_cap ho
  refine At.seq ?_
  refine At.region ?_
  refine AtL.lss (.inl rfl) rfl rfl rfl ?_
  refine AtL.done ?_
  refine At.seq ?_
  refine At.cond rfl ?_ ?_
  · intro hc1
    have hc1 : (k : Int) < (l.length : Int) := of_decide_eq_true hc1
    refine At.skip ?_
    refine At.seq ?_
    refine At.block ?_
    refine At.seq ?_
    refine At.region ?_
    refine AtL.move (.inl rfl) rfl rfl ?_
    refine AtL.indexL k (ho.rd (i := 0) rfl) Tryz.underlying22 tf_sz5 (.inl rfl) rfl rfl rfl rfl (by omega) ?_
    refine AtL.load (v := .int .u8 (((mapTo lowB l k).getD k 0).toNat : Int)) tf_flat5 (.inl rfl) rfl rfl (Rd.cell0 (ho.rd (i := 0) rfl) (getD_some 0 (by omega)) rfl) ?_
    refine AtL.assign (.inl rfl) rfl rfl ?_
    refine AtL.assign (.inl rfl) rfl rfl ?_
    refine AtL.done ?_
    refine At.seq ?_
    refine At.region ?_
    refine AtL.move (.inl rfl) rfl rfl ?_
    refine AtL.geq (.inl rfl) rfl rfl rfl ?_
    refine AtL.move (.inl rfl) rfl rfl ?_
    refine AtL.join 3 (E' := [(20, .bool (decide ((65 ≤ (((mapTo lowB l k).getD k 0).toNat : Int)) ∧ ((((mapTo lowB l k).getD k 0).toNat : Int) ≤ 90)))), (3, .slice A1 (mapTo lowB l k).length C2), (4, .int .i64 (k : Int)), (5, .int .u8 (((mapTo lowB l k).getD k 0).toNat : Int)), (8, .slice A1 (mapTo lowB l k).length C2), (9, .int .i64 (l.length : Int)), (10, .int .i64 (k : Int))]) (H' := s2 :: H) (fun J => ?_) ?_
    · refine AtL.split (t := 17) rfl ?_ ?_
      · intro hs17
        have hs17 : 65 ≤ (((mapTo lowB l k).getD k 0).toNat : Int) := of_decide_eq_true hs17
        refine AtL.move (.inr ⟨_, _, _, rfl, rfl, rfl, rfl⟩) rfl rfl ?_
        refine AtL.leq (.inr ⟨_, _, _, rfl, rfl, rfl, rfl⟩) rfl rfl rfl ?_
        refine AtL.pickT (.inl rfl) rfl rfl rfl ?_
        exact J _ (by exact ⟨(boolIs (by clear J; first | (simp [hs17]; done) | (simp_all; done) | grind)), rfl, rfl, rfl, rfl, rfl, rfl, trivial⟩)
      · intro hs17
        have hs17 : ¬ (65 ≤ (((mapTo lowB l k).getD k 0).toNat : Int)) := of_decide_eq_false hs17
        refine AtL.skipped rfl rfl rfl rfl rfl rfl ?_
        refine AtL.skipped rfl rfl rfl rfl rfl rfl ?_
        refine AtL.pickF (.inl rfl) rfl rfl rfl ?_
        exact J _ (by exact ⟨(boolIs (by clear J; first | (simp [hs17]; done) | (simp_all; done) | grind)), rfl, rfl, rfl, rfl, rfl, rfl, trivial⟩)
    · skip
      refine AtL.done ?_
      refine At.cond rfl ?_ ?_
      · intro hc2
        have hc2 : (65 ≤ (((mapTo lowB l k).getD k 0).toNat : Int)) ∧ ((((mapTo lowB l k).getD k 0).toNat : Int) ≤ 90) := of_decide_eq_true hc2
        refine At.region ?_
        refine AtL.move (.inl rfl) rfl rfl ?_
        refine AtL.move (.inl rfl) rfl rfl ?_
        refine AtL.move (.inl rfl) rfl rfl ?_
        refine AtL.add (z := (lowB ((mapTo lowB l k).getD k 0)).toNat) (.inl rfl) rfl rfl rfl (add32 hc2) ?_
        refine AtL.indexL k (ho.rd (i := 0) rfl) Tryz.underlying22 tf_sz5 (.inl rfl) rfl rfl rfl rfl (by omega) ?_
        refine AtL.setIdx (u := (lowB ((mapTo lowB l k).getD k 0))) 0 k tf_sz5 rfl ho (by omega) (.inl rfl) rfl rfl ?_
        intro s6 o7
        refine AtL.relen (m := ((mapTo lowB l k).set k (lowB ((mapTo lowB l k).getD k 0))).length) 3 rfl (List.length_set) ?_
        refine AtL.relen (m := ((mapTo lowB l k).set k (lowB ((mapTo lowB l k).getD k 0))).length) 8 rfl (List.length_set) ?_
        refine AtL.done ?_
        refine At.inBlock ?_
        refine At.region ?_
        refine AtL.add (z := (k : Int) + 1) (.inl rfl) rfl rfl rfl (w64 (by omega) (by omega)) ?_
        refine AtL.move (.inl rfl) rfl rfl ?_
        refine AtL.done ?_
        refine ihL1 (k + 1) s6 (⟨by omega, by rw [← mapTo_set _ _ _ (by omega), ← mapTo_get lowB l k (by omega)]; exact o7⟩) (by omega) _ ?_
        exact ⟨(by first | rfl | exact slLen (by simp [mapTo_len]) | exact intEq (by omega) | exact intEq (by simp [mapTo_len]) | exact slLen (by simp [mapTo_len]; omega)), (by first | rfl | exact slLen (by simp [mapTo_len]) | exact intEq (by omega) | exact intEq (by simp [mapTo_len]) | exact slLen (by simp [mapTo_len]; omega)), rfl, (by first | rfl | exact slLen (by simp [mapTo_len]) | exact intEq (by omega) | exact intEq (by simp [mapTo_len]) | exact slLen (by simp [mapTo_len]; omega)), trivial⟩
      · intro hc2
        have hc2 : ¬ ((65 ≤ (((mapTo lowB l k).getD k 0).toNat : Int)) ∧ ((((mapTo lowB l k).getD k 0).toNat : Int) ≤ 90)) := of_decide_eq_false hc2
        refine At.skip ?_
        refine At.inBlock ?_
        refine At.region ?_
        refine AtL.add (z := (k : Int) + 1) (.inl rfl) rfl rfl rfl (w64 (by omega) (by omega)) ?_
        refine AtL.move (.inl rfl) rfl rfl ?_
        refine AtL.done ?_
        refine ihL1 (k + 1) s2 (⟨by omega, by rw [mapTo_same _ _ _ (by omega) (by rw [← mapTo_get lowB l k (by omega)]; exact lowB_no hc2)]; exact ho⟩) (by omega) _ ?_
        exact ⟨(by first | rfl | exact slLen (by simp [mapTo_len]) | exact intEq (by omega) | exact intEq (by simp [mapTo_len]) | exact slLen (by simp [mapTo_len]; omega)), (by first | rfl | exact slLen (by simp [mapTo_len]) | exact intEq (by omega) | exact intEq (by simp [mapTo_len]) | exact slLen (by simp [mapTo_len]; omega)), rfl, (by first | rfl | exact slLen (by simp [mapTo_len]) | exact intEq (by omega) | exact intEq (by simp [mapTo_len]) | exact slLen (by simp [mapTo_len]; omega)), trivial⟩
  · intro hc1
    have hc1 : ¬ ((k : Int) < (l.length : Int)) := of_decide_eq_false hc1
    obtain rfl : k = l.length := by omega
    refine At.exit rfl ?_
    refine At.seq ?_
    refine At.region ?_
    refine AtL.move (.inl rfl) rfl rfl ?_
    refine AtL.strOf (ho.rd (i := 0) rfl) Tryz.underlying22 Tryz.underlying5 Tryz.underlying9 (.inl rfl) rfl rfl ?_
    refine AtL.assign (.inl rfl) rfl rfl ?_
    refine AtL.done ?_
    refine At.pick (H' := H) [] 1 rfl rfl ?_
    exact At.ret Tryz.func119 rfl rfl (⟨congrArg str (by rw [mapTo_all, lowerF]), rfl⟩)
theorem take_succ_d (l : List UInt8) (k : Nat) (h : k < l.length) : l.take (k + 1) = l.take k ++ [l.getD k 0] := by
  rw [List.take_succ_eq_append_getElem h]; simp [List.getD, h]
theorem all_step {p : UInt8 → Bool} {l : List UInt8} {k : Nat} (h : k < l.length) (ha : (l.take k).all p = true) (hp : p (l.getD k 0) = true) : (l.take (k + 1)).all p = true := by
  rw [take_succ_d l k h, List.all_append, ha]; simpa using hp
theorem all_bad {p : UInt8 → Bool} {l : List UInt8} {k : Nat} (h : k < l.length) (hp : p (l.getD k 0) = false) : l.all p = false := by
  rw [List.all_eq_false]
  refine ⟨l.getD k 0, ?_, by rw [hp]; simp⟩
  simp [List.getD, h]
theorem all_end {p : UInt8 → Bool} {l : List UInt8} {k : Nat} (h : l.length ≤ k) (ha : (l.take k).all p = true) : l.all p = true := by
  rw [List.take_of_length_le h] at ha; exact ha
theorem u8_eq {c : UInt8} {n : Nat} (hn : n < 256) : (c.toNat : Int) = (n : Int) ↔ c = UInt8.ofNat n := by
  constructor
  · intro h
    have h : c.toNat = n := by omega
    apply UInt8.toNat_inj.1
    rw [h, UInt8.toNat_ofNat_of_lt' hn]
  · rintro rfl
    rw [UInt8.toNat_ofNat_of_lt' hn]
set_option maxHeartbeats 400000 in
theorem digit_ok {w0 : World} {base : Nat} {H : List Seg} (c : UInt8) :
    SCalls Tryz.prog 142 [.int .u8 (c.toNat : Int)] w0 base (H) (fun v H' => v = .bool (decide (48 ≤ (c.toNat : Int) ∧ (c.toNat : Int) ≤ 57)) ∧ H' = H) := by
  refine SCalls.of_walk (n := 9) Tryz.func142 rfl rfl rfl fun cs => ?_
  refine At.seq ?_
  refine At.region ?_
  refine AtL.assign (.inl rfl) rfl rfl ?_
  refine AtL.done ?_
  refine At.seq ?_
  refine At.region ?_
  refine AtL.move (.inl rfl) rfl rfl ?_
  refine AtL.geq (.inl rfl) rfl rfl rfl ?_
  refine AtL.move (.inl rfl) rfl rfl ?_
  refine AtL.join 3 (E' := [(8, .bool (decide ((48 ≤ (c.toNat : Int)) ∧ ((c.toNat : Int) ≤ 57))))]) (H' := H) (fun J => ?_) ?_
  · refine AtL.split (t := 5) rfl ?_ ?_
    · intro hs5
      have hs5 : 48 ≤ (c.toNat : Int) := of_decide_eq_true hs5
      refine AtL.move (.inr ⟨_, _, _, rfl, rfl, rfl, rfl⟩) rfl rfl ?_
      refine AtL.leq (.inr ⟨_, _, _, rfl, rfl, rfl, rfl⟩) rfl rfl rfl ?_
      refine AtL.pickT (.inl rfl) rfl rfl rfl ?_
      exact J _ (by exact ⟨(boolIs (by clear J; first | (simp [hs5]; done) | (simp_all; done) | grind)), trivial⟩)
    · intro hs5
      have hs5 : ¬ (48 ≤ (c.toNat : Int)) := of_decide_eq_false hs5
      refine AtL.skipped rfl rfl rfl rfl rfl rfl ?_
      refine AtL.skipped rfl rfl rfl rfl rfl rfl ?_
      refine AtL.pickF (.inl rfl) rfl rfl rfl ?_
      exact J _ (by exact ⟨(boolIs (by clear J; first | (simp [hs5]; done) | (simp_all; done) | grind)), trivial⟩)
  · skip
    refine AtL.assign (.inl rfl) rfl rfl ?_
    refine AtL.done ?_
    exact At.ret Tryz.func142 rfl rfl (⟨congrArg Value.bool (decide_eq_decide.2 (by omega)), rfl⟩)
set_option maxHeartbeats 400000 in
theorem blank_ok {w0 : World} {base : Nat} {H : List Seg} (c : UInt8) :
    SCalls Tryz.prog 150 [.int .u8 (c.toNat : Int)] w0 base (H) (fun v H' => v = .bool (decide ((c.toNat : Int) = 9 ∨ (c.toNat : Int) = 32)) ∧ H' = H) := by
  refine SCalls.of_walk (n := 9) Tryz.func150 rfl rfl rfl fun cs => ?_
  refine At.seq ?_
  refine At.region ?_
  refine AtL.assign (.inl rfl) rfl rfl ?_
  refine AtL.done ?_
  refine At.seq ?_
  refine At.region ?_
  refine AtL.move (.inl rfl) rfl rfl ?_
  refine AtL.eqi (.inl rfl) rfl rfl rfl ?_
  refine AtL.move (.inl rfl) rfl rfl ?_
  refine AtL.join 3 (E' := [(8, .bool (decide (((c.toNat : Int) = 9) ∨ ((c.toNat : Int) = 32))))]) (H' := H) (fun J => ?_) ?_
  · refine AtL.split (t := 5) rfl ?_ ?_
    · intro hs5
      have hs5 : (c.toNat : Int) = 9 := of_decide_eq_true hs5
      refine AtL.skipped rfl rfl rfl rfl rfl rfl ?_
      refine AtL.skipped rfl rfl rfl rfl rfl rfl ?_
      refine AtL.pickT (.inl rfl) rfl rfl rfl ?_
      exact J _ (by exact ⟨(boolIs (by clear J; first | (simp [hs5]; done) | (simp_all; done) | grind)), trivial⟩)
    · intro hs5
      have hs5 : ¬ ((c.toNat : Int) = 9) := of_decide_eq_false hs5
      refine AtL.move (.inr ⟨_, _, _, rfl, rfl, rfl, rfl⟩) rfl rfl ?_
      refine AtL.eqi (.inr ⟨_, _, _, rfl, rfl, rfl, rfl⟩) rfl rfl rfl ?_
      refine AtL.pickF (.inl rfl) rfl rfl rfl ?_
      exact J _ (by exact ⟨(boolIs (by clear J; first | (simp [hs5]; done) | (simp_all; done) | grind)), trivial⟩)
  · skip
    refine AtL.assign (.inl rfl) rfl rfl ?_
    refine AtL.done ?_
    exact At.ret Tryz.func150 rfl rfl (⟨congrArg Value.bool (decide_eq_decide.2 (by omega)), rfl⟩)
def tgtCh (c : UInt8) : Bool := decide (33 ≤ c.toNat ∧ c.toNat ≤ 126)
theorem tgtCh_yes {c : UInt8} (h : ¬ ((c.toNat : Int) < 33 ∨ 126 < (c.toNat : Int))) : tgtCh c = true := decide_eq_true (by omega)
theorem tgtCh_no {c : UInt8} (h : (c.toNat : Int) < 33 ∨ 126 < (c.toNat : Int)) : tgtCh c = false := decide_eq_false (by omega)
theorem targetF_all (l : List UInt8) : targetF l = (decide (l.head? = some 47) && l.all tgtCh) := rfl
theorem head_47 (l : List UInt8) : (l.head? = some 47) ↔ (l ≠ [] ∧ ((l.getD 0 0).toNat : Int) = 47) := by
  cases l with
  | nil => simp
  | cons c l =>
    simp only [List.head?_cons, Option.some.injEq, ne_eq, reduceCtorEq, not_false_eq_true, true_and]
    exact (u8_eq (c := c) (n := 47) (by omega)).symm
theorem valCh_yes {c : UInt8} (h : ¬ (¬ (c.toNat : Int) = 9 ∧ ((c.toNat : Int) < 32 ∨ (c.toNat : Int) = 127))) : valCh c = true := by
  have h9 := u8_eq (c := c) (n := 9) (by omega)
  have h127 := u8_eq (c := c) (n := 127) (by omega)
  have hlt : c < 32 ↔ (c.toNat : Int) < 32 := by
    constructor
    · intro h; have : c.toNat < 32 := h; omega
    · intro h; show c.toNat < 32; omega
  simp only [valCh, Bool.and_eq_true, Bool.not_eq_true', Bool.and_eq_false_iff, decide_eq_false_iff_not, decide_eq_true_eq, ne_eq, Decidable.not_not, hlt]
  by_cases h1 : (c.toNat : Int) = 9
  · have : c = 9 := h9.1 h1
    subst this; exact ⟨.inl rfl, by decide⟩
  · refine ⟨.inr (fun h2 => h ⟨h1, .inl h2⟩), fun h2 => h ⟨h1, .inr (h127.2 h2)⟩⟩
theorem valCh_no {c : UInt8} (h : ¬ (c.toNat : Int) = 9 ∧ ((c.toNat : Int) < 32 ∨ (c.toNat : Int) = 127)) : valCh c = false := by
  have h9 := u8_eq (c := c) (n := 9) (by omega)
  have h127 := u8_eq (c := c) (n := 127) (by omega)
  have hlt : c < 32 ↔ (c.toNat : Int) < 32 := by
    constructor
    · intro h; have : c.toNat < 32 := h; omega
    · intro h; show c.toNat < 32; omega
  have h1 : ¬ c = 9 := fun h2 => h.1 (h9.2 h2)
  rcases h.2 with h2 | h2
  · simp only [valCh, ne_eq, h1, not_false_eq_true, decide_true, hlt.2 h2, Bool.and_self, Bool.not_true, Bool.false_and]
  · have : c = 127 := h127.1 h2
    subst this; decide
theorem valueF_is (l : List UInt8) (h : l.all valCh = true) : valueF l = decide (l = [] ∨ (¬ (((l.getD 0 0).toNat : Int) = 9 ∨ ((l.getD 0 0).toNat : Int) = 32) ∧ ¬ (((l.getD (Int.toNat ((l.length : Int) - 1)) 0).toNat : Int) = 9 ∨ ((l.getD (Int.toNat ((l.length : Int) - 1)) 0).toNat : Int) = 32))) := by
  have key : ∀ c : UInt8, blankF c = false ↔ ¬ ((c.toNat : Int) = 9 ∨ (c.toNat : Int) = 32) := by
    intro c
    have h9 := u8_eq (c := c) (n := 9) (by omega)
    have h32 := u8_eq (c := c) (n := 32) (by omega)
    simp only [blankF, Bool.or_eq_false_iff, decide_eq_false_iff_not, not_or]
    exact and_congr (not_congr h9.symm) (not_congr h32.symm)
  rw [show Int.toNat ((l.length : Int) - 1) = l.length - 1 by omega, valueF, h, Bool.true_and]
  exact decide_eq_decide.2 ((trim_same l).trans (by rw [key, key]))
set_option maxHeartbeats 400000 in
theorem target_ok {w0 : World} {base : Nat} {H : List Seg} {l : List UInt8} (hl : l.length ≤ 140737488355000) :
    SCalls Tryz.prog 101 [str l] w0 base (H) (fun v H' => v = .bool (targetF l) ∧ H' = H) := by
  refine SCalls.of_walk (n := 26) Tryz.func101 rfl rfl rfl fun cs => ?_
  refine At.seq ?_
  refine At.region ?_
  refine AtL.assign (.inl rfl) rfl rfl ?_
  refine AtL.done ?_
  refine At.seq ?_
  refine At.seq ?_
  refine At.region ?_
  refine AtL.move (.inl rfl) rfl rfl ?_
  refine AtL.bytesOf (l := l) Tryz.underlying9 Tryz.underlying22 Tryz.underlying5 (by first | omega | (simp only [List.length_append, List.length_cons, List.length_nil]; omega) | (simp; done) | (simp; omega)) (.inl rfl) rfl rfl ?_
  intro A1 C2 s3 n5 o4
  refine AtL.lenL Tryz.underlying22 (.inl rfl) rfl rfl ?_
  refine AtL.move (.inl rfl) rfl rfl ?_
  refine AtL.done ?_
  refine At.block ?_
  refine At.loop (fun (k : Nat) => [(0, str l), (6, .slice A1 l.length C2), (7, .int .i64 (l.length : Int)), (8, .int .i64 (k : Int))]) (fun (k : Nat) => s3 :: H) (fun (k : Nat) => k ≤ l.length ∧ (l.take k).all tgtCh = true) (fun (k : Nat) => l.length - k) 0 (⟨Nat.zero_le _, rfl⟩) ⟨rfl, rfl, rfl, rfl, trivial⟩ rfl ?_
  rintro k ⟨hk, ha⟩ ihL1
  refine At.seq ?_
  refine At.region ?_
  refine AtL.lss (.inl rfl) rfl rfl rfl ?_
  refine AtL.done ?_
  refine At.seq ?_
  refine At.cond rfl ?_ ?_
  · intro hc1
    have hc1 : (k : Int) < (l.length : Int) := of_decide_eq_true hc1
    refine At.skip ?_
    refine At.seq ?_
    refine At.block ?_
    refine At.seq ?_
    refine At.region ?_
    refine AtL.indexL k (o4.rd (i := 0) rfl) Tryz.underlying22 tf_sz5 (.inl rfl) rfl rfl rfl rfl (by omega) ?_
    refine AtL.load (v := .int .u8 ((l.getD k 0).toNat : Int)) tf_flat5 (.inl rfl) rfl rfl (Rd.cell0 (o4.rd (i := 0) rfl) (getD_some 0 (by omega)) rfl) ?_
    refine AtL.assign (.inl rfl) rfl rfl ?_
    refine AtL.done ?_
    refine At.seq ?_
    refine At.region ?_
    refine AtL.move (.inl rfl) rfl rfl ?_
    refine AtL.lss (.inl rfl) rfl rfl rfl ?_
    refine AtL.move (.inl rfl) rfl rfl ?_
    refine AtL.join 3 (E' := [(17, .bool (decide ((((l.getD k 0).toNat : Int) < 33) ∨ (126 < ((l.getD k 0).toNat : Int))))), (0, str l), (6, .slice A1 l.length C2), (7, .int .i64 (l.length : Int)), (8, .int .i64 (k : Int))]) (H' := s3 :: H) (fun J => ?_) ?_
    · refine AtL.split (t := 14) rfl ?_ ?_
      · intro hs14
        have hs14 : ((l.getD k 0).toNat : Int) < 33 := of_decide_eq_true hs14
        refine AtL.skipped rfl rfl rfl rfl rfl rfl ?_
        refine AtL.skipped rfl rfl rfl rfl rfl rfl ?_
        refine AtL.pickT (.inl rfl) rfl rfl rfl ?_
        exact J _ (by exact ⟨(boolIs (by clear J; first | (simp [hs14]; done) | (simp_all; done) | grind)), rfl, rfl, rfl, rfl, trivial⟩)
      · intro hs14
        have hs14 : ¬ (((l.getD k 0).toNat : Int) < 33) := of_decide_eq_false hs14
        refine AtL.move (.inr ⟨_, _, _, rfl, rfl, rfl, rfl⟩) rfl rfl ?_
        refine AtL.gtr (.inr ⟨_, _, _, rfl, rfl, rfl, rfl⟩) rfl rfl rfl ?_
        refine AtL.pickF (.inl rfl) rfl rfl rfl ?_
        exact J _ (by exact ⟨(boolIs (by clear J; first | (simp [hs14]; done) | (simp_all; done) | grind)), rfl, rfl, rfl, rfl, trivial⟩)
    · skip
      refine AtL.done ?_
      refine At.cond rfl ?_ ?_
      · intro hc2
        have hc2 : (((l.getD k 0).toNat : Int) < 33) ∨ (126 < ((l.getD k 0).toNat : Int)) := of_decide_eq_true hc2
        refine At.seq ?_
        refine At.region ?_
        refine AtL.assign (.inl rfl) rfl rfl ?_
        refine AtL.done ?_
        refine At.pick (H' := H) [] 1 rfl rfl ?_
        exact At.ret Tryz.func101 rfl rfl (⟨congrArg Value.bool (by rw [targetF_all, all_bad (by omega) (tgtCh_no hc2), Bool.and_false]), rfl⟩)
      · intro hc2
        have hc2 : ¬ ((((l.getD k 0).toNat : Int) < 33) ∨ (126 < ((l.getD k 0).toNat : Int))) := of_decide_eq_false hc2
        refine At.skip ?_
        refine At.inBlock ?_
        refine At.region ?_
        refine AtL.add (z := (k : Int) + 1) (.inl rfl) rfl rfl rfl (w64 (by omega) (by omega)) ?_
        refine AtL.move (.inl rfl) rfl rfl ?_
        refine AtL.done ?_
        refine ihL1 (k + 1) (⟨by omega, all_step (by omega) ha (tgtCh_yes hc2)⟩) (by omega) _ ?_
        exact ⟨rfl, rfl, rfl, (by first | rfl | exact slLen (by simp []) | exact intEq (by omega) | exact intEq (by simp []) | exact slLen (by simp []; omega)), trivial⟩
  · intro hc1
    have hc1 : ¬ ((k : Int) < (l.length : Int)) := of_decide_eq_false hc1
    refine At.exit rfl ?_
    refine At.seq ?_
    refine At.region ?_
    refine AtL.move (.inl rfl) rfl rfl ?_
    refine AtL.nes (a := l) (b := []) (.inl rfl) rfl rfl rfl ?_
    refine AtL.move (.inl rfl) rfl rfl ?_
    refine AtL.join 4 (E' := [(25, .bool (decide ((¬ (l = [])) ∧ (((l.getD 0 0).toNat : Int) = 47))))]) (H' := s3 :: H) (fun J => ?_) ?_
    · refine AtL.split (t := 21) rfl ?_ ?_
      · intro hs21
        have hs21 : ¬ (l = []) := of_decide_eq_false (bnot_true hs21)
        have hpos := List.length_pos_iff.2 hs21
        refine AtL.move (.inr ⟨_, _, _, rfl, rfl, rfl, rfl⟩) rfl rfl ?_
        refine AtL.indexS (l := l) 0 rfl (by omega) Tryz.underlying9 (.inr ⟨_, _, _, rfl, rfl, rfl, rfl⟩) rfl rfl rfl ?_
        refine AtL.eqi (.inr ⟨_, _, _, rfl, rfl, rfl, rfl⟩) rfl rfl rfl ?_
        refine AtL.pickT (.inl rfl) rfl rfl rfl ?_
        exact J _ (by exact ⟨(boolIs (by clear J; first | (simp [hs21]; done) | (simp_all; done) | grind)), trivial⟩)
      · intro hs21
        have hs21 : l = [] := of_decide_eq_true (bnot_false hs21)
        refine AtL.skipped rfl rfl rfl rfl rfl rfl ?_
        refine AtL.skipped rfl rfl rfl rfl rfl rfl ?_
        refine AtL.skipped rfl rfl rfl rfl rfl rfl ?_
        refine AtL.pickF (.inl rfl) rfl rfl rfl ?_
        exact J _ (by exact ⟨(boolIs (by clear J; first | (simp [hs21]; done) | (simp_all; done) | grind)), trivial⟩)
    · skip
      refine AtL.assign (.inl rfl) rfl rfl ?_
      refine AtL.done ?_
      refine At.pick (H' := H) [] 1 rfl rfl ?_
      exact At.ret Tryz.func101 rfl rfl (⟨congrArg Value.bool (by rw [targetF_all, all_end (by omega) ha, Bool.and_true]; exact decide_eq_decide.2 (head_47 l).symm), rfl⟩)
set_option maxHeartbeats 400000 in
theorem value_ok {w0 : World} {base : Nat} {H : List Seg} {l : List UInt8} (hl : l.length ≤ 140737488355000) :
    SCalls Tryz.prog 103 [str l] w0 base (H) (fun v H' => v = .bool (valueF l) ∧ H' = H) := by
  refine SCalls.of_walk (n := 40) Tryz.func103 rfl rfl rfl fun cs => ?_
  refine At.seq ?_
  refine At.region ?_
  refine AtL.assign (.inl rfl) rfl rfl ?_
  refine AtL.done ?_
  refine At.seq ?_
  refine At.seq ?_
  refine At.region ?_
  refine AtL.move (.inl rfl) rfl rfl ?_
  refine AtL.bytesOf (l := l) Tryz.underlying9 Tryz.underlying22 Tryz.underlying5 (by first | omega | (simp only [List.length_append, List.length_cons, List.length_nil]; omega) | (simp; done) | (simp; omega)) (.inl rfl) rfl rfl ?_
  intro A1 C2 s3 n5 o4
  refine AtL.lenL Tryz.underlying22 (.inl rfl) rfl rfl ?_
  refine AtL.move (.inl rfl) rfl rfl ?_
  refine AtL.done ?_
  refine At.block ?_
  refine At.loop (fun (k : Nat) => [(0, str l), (6, .slice A1 l.length C2), (7, .int .i64 (l.length : Int)), (8, .int .i64 (k : Int))]) (fun (k : Nat) => s3 :: H) (fun (k : Nat) => k ≤ l.length ∧ (l.take k).all valCh = true) (fun (k : Nat) => l.length - k) 0 (⟨Nat.zero_le _, rfl⟩) ⟨rfl, rfl, rfl, rfl, trivial⟩ rfl ?_
  rintro k ⟨hk, ha⟩ ihL1
  refine At.seq ?_
  refine At.region ?_
  refine AtL.lss (.inl rfl) rfl rfl rfl ?_
  refine AtL.done ?_
  refine At.seq ?_
  refine At.cond rfl ?_ ?_
  · intro hc1
    have hc1 : (k : Int) < (l.length : Int) := of_decide_eq_true hc1
    refine At.skip ?_
    refine At.seq ?_
    refine At.block ?_
    refine At.seq ?_
    refine At.region ?_
    refine AtL.indexL k (o4.rd (i := 0) rfl) Tryz.underlying22 tf_sz5 (.inl rfl) rfl rfl rfl rfl (by omega) ?_
    refine AtL.load (v := .int .u8 ((l.getD k 0).toNat : Int)) tf_flat5 (.inl rfl) rfl rfl (Rd.cell0 (o4.rd (i := 0) rfl) (getD_some 0 (by omega)) rfl) ?_
    refine AtL.assign (.inl rfl) rfl rfl ?_
    refine AtL.done ?_
    refine At.seq ?_
    refine At.region ?_
    refine AtL.move (.inl rfl) rfl rfl ?_
    refine AtL.nei (.inl rfl) rfl rfl rfl ?_
    refine AtL.move (.inl rfl) rfl rfl ?_
    refine AtL.join 7 (E' := [(21, .bool (decide ((¬ (((l.getD k 0).toNat : Int) = 9)) ∧ ((((l.getD k 0).toNat : Int) < 32) ∨ (((l.getD k 0).toNat : Int) = 127))))), (0, str l), (6, .slice A1 l.length C2), (7, .int .i64 (l.length : Int)), (8, .int .i64 (k : Int))]) (H' := s3 :: H) (fun J => ?_) ?_
    · refine AtL.split (t := 14) rfl ?_ ?_
      · intro hs14
        have hs14 : ¬ (((l.getD k 0).toNat : Int) = 9) := of_decide_eq_false (bnot_true hs14)
        refine AtL.move (.inr ⟨_, _, _, rfl, rfl, rfl, rfl⟩) rfl rfl ?_
        refine AtL.lss (.inr ⟨_, _, _, rfl, rfl, rfl, rfl⟩) rfl rfl rfl ?_
        refine AtL.move (.inr ⟨_, _, _, rfl, rfl, rfl, rfl⟩) rfl rfl ?_
        refine AtL.join 3 (E' := [(20, .bool (decide ((((l.getD k 0).toNat : Int) < 32) ∨ (((l.getD k 0).toNat : Int) = 127)))), (0, str l), (6, .slice A1 l.length C2), (7, .int .i64 (l.length : Int)), (8, .int .i64 (k : Int)), (14, .bool true)]) (H' := s3 :: H) (fun J => ?_) ?_
        · refine AtL.split (t := 17) rfl ?_ ?_
          · intro hs17
            have hs17 : ((l.getD k 0).toNat : Int) < 32 := of_decide_eq_true hs17
            refine AtL.skipped rfl rfl rfl rfl rfl rfl ?_
            refine AtL.skipped rfl rfl rfl rfl rfl rfl ?_
            refine AtL.pickT (.inr ⟨_, _, _, rfl, rfl, rfl, rfl⟩) rfl rfl rfl ?_
            exact J _ (by exact ⟨(boolIs (by clear J; first | (simp [hs17]; done) | (simp_all; done) | grind)), rfl, rfl, rfl, rfl, rfl, trivial⟩)
          · intro hs17
            have hs17 : ¬ (((l.getD k 0).toNat : Int) < 32) := of_decide_eq_false hs17
            refine AtL.move (.inr ⟨_, _, _, rfl, rfl, rfl, rfl⟩) rfl rfl ?_
            refine AtL.eqi (.inr ⟨_, _, _, rfl, rfl, rfl, rfl⟩) rfl rfl rfl ?_
            refine AtL.pickF (.inr ⟨_, _, _, rfl, rfl, rfl, rfl⟩) rfl rfl rfl ?_
            exact J _ (by exact ⟨(boolIs (by clear J; first | (simp [hs17]; done) | (simp_all; done) | grind)), rfl, rfl, rfl, rfl, rfl, trivial⟩)
        · skip
          refine AtL.pickT (.inl rfl) rfl rfl rfl ?_
          exact J _ (by exact ⟨(boolIs (by clear J; first | (simp [hs14]; done) | (simp_all; done) | grind)), rfl, rfl, rfl, rfl, trivial⟩)
      · intro hs14
        have hs14 : ((l.getD k 0).toNat : Int) = 9 := of_decide_eq_true (bnot_false hs14)
        refine AtL.skipped rfl rfl rfl rfl rfl rfl ?_
        refine AtL.skipped rfl rfl rfl rfl rfl rfl ?_
        refine AtL.skipped rfl rfl rfl rfl rfl rfl ?_
        refine AtL.skippedU rfl rfl rfl rfl rfl ?_
        refine AtL.skippedU rfl rfl rfl rfl rfl ?_
        refine AtL.skipped rfl rfl rfl rfl rfl rfl ?_
        refine AtL.pickF (.inl rfl) rfl rfl rfl ?_
        exact J _ (by exact ⟨(boolIs (by clear J; first | (simp [hs14]; done) | (simp_all; done) | grind)), rfl, rfl, rfl, rfl, trivial⟩)
    · skip
      refine AtL.done ?_
      refine At.cond rfl ?_ ?_
      · intro hc2
        have hc2 : (¬ (((l.getD k 0).toNat : Int) = 9)) ∧ ((((l.getD k 0).toNat : Int) < 32) ∨ (((l.getD k 0).toNat : Int) = 127)) := of_decide_eq_true hc2
        refine At.seq ?_
        refine At.region ?_
        refine AtL.assign (.inl rfl) rfl rfl ?_
        refine AtL.done ?_
        refine At.pick (H' := H) [] 1 rfl rfl ?_
        exact At.ret Tryz.func103 rfl rfl (⟨congrArg Value.bool (by rw [valueF, all_bad (by omega) (valCh_no hc2), Bool.false_and]), rfl⟩)
      · intro hc2
        have hc2 : ¬ ((¬ (((l.getD k 0).toNat : Int) = 9)) ∧ ((((l.getD k 0).toNat : Int) < 32) ∨ (((l.getD k 0).toNat : Int) = 127))) := of_decide_eq_false hc2
        refine At.skip ?_
        refine At.inBlock ?_
        refine At.region ?_
        refine AtL.add (z := (k : Int) + 1) (.inl rfl) rfl rfl rfl (w64 (by omega) (by omega)) ?_
        refine AtL.move (.inl rfl) rfl rfl ?_
        refine AtL.done ?_
        refine ihL1 (k + 1) (⟨by omega, all_step (by omega) ha (valCh_yes hc2)⟩) (by omega) _ ?_
        exact ⟨rfl, rfl, rfl, (by first | rfl | exact slLen (by simp []) | exact intEq (by omega) | exact intEq (by simp []) | exact slLen (by simp []; omega)), trivial⟩
  · intro hc1
    have hc1 : ¬ ((k : Int) < (l.length : Int)) := of_decide_eq_false hc1
    refine At.exit rfl ?_
    refine At.seq ?_
    refine At.region ?_
    refine AtL.move (.inl rfl) rfl rfl ?_
    refine AtL.eqs (a := l) (b := []) (.inl rfl) rfl rfl rfl ?_
    refine AtL.move (.inl rfl) rfl rfl ?_
    refine AtL.join 14 (E' := [(39, .bool (decide ((l = []) ∨ ((¬ (((l.getD 0 0).toNat : Int) = 9 ∨ ((l.getD 0 0).toNat : Int) = 32)) ∧ (¬ (((l.getD (Int.toNat ((l.length : Int) - 1)) 0).toNat : Int) = 9 ∨ ((l.getD (Int.toNat ((l.length : Int) - 1)) 0).toNat : Int) = 32))))))]) (H' := s3 :: H) (fun J => ?_) ?_
    · refine AtL.split (t := 25) rfl ?_ ?_
      · intro hs25
        have hs25 : l = [] := of_decide_eq_true hs25
        refine AtL.skipped rfl rfl rfl rfl rfl rfl ?_
        refine AtL.skipped rfl rfl rfl rfl rfl rfl ?_
        refine AtL.skipped rfl rfl rfl rfl rfl rfl ?_
        refine AtL.skipped rfl rfl rfl rfl rfl rfl ?_
        refine AtL.skipped rfl rfl rfl rfl rfl rfl ?_
        refine AtL.skippedU rfl rfl rfl rfl rfl ?_
        refine AtL.skippedU rfl rfl rfl rfl rfl ?_
        refine AtL.skippedU rfl rfl rfl rfl rfl ?_
        refine AtL.skippedU rfl rfl rfl rfl rfl ?_
        refine AtL.skippedU rfl rfl rfl rfl rfl ?_
        refine AtL.skippedU rfl rfl rfl rfl rfl ?_
        refine AtL.skippedU rfl rfl rfl rfl rfl ?_
        refine AtL.skipped rfl rfl rfl rfl rfl rfl ?_
        refine AtL.pickT (.inl rfl) rfl rfl rfl ?_
        exact J _ (by exact ⟨(boolIs (by clear J; first | (simp [hs25]; done) | (simp_all; done) | grind)), trivial⟩)
      · intro hs25
        have hs25 : ¬ (l = []) := of_decide_eq_false hs25
        have hpos := List.length_pos_iff.2 hs25
        refine AtL.move (.inr ⟨_, _, _, rfl, rfl, rfl, rfl⟩) rfl rfl ?_
        refine AtL.indexS (l := l) 0 rfl (by omega) Tryz.underlying9 (.inr ⟨_, _, _, rfl, rfl, rfl, rfl⟩) rfl rfl rfl ?_
        refine AtL.call tf_body150 (.inr ⟨_, _, _, rfl, rfl, rfl, rfl⟩) rfl rfl (blank_ok (l.getD 0 0)) ?_
        rintro _ _ ⟨rfl, rfl⟩
        refine AtL.not (.inr ⟨_, _, _, rfl, rfl, rfl, rfl⟩) rfl rfl ?_
        refine AtL.move (.inr ⟨_, _, _, rfl, rfl, rfl, rfl⟩) rfl rfl ?_
        refine AtL.join 8 (E' := [(38, .bool (decide ((¬ (((l.getD 0 0).toNat : Int) = 9 ∨ ((l.getD 0 0).toNat : Int) = 32)) ∧ (¬ (((l.getD (Int.toNat ((l.length : Int) - 1)) 0).toNat : Int) = 9 ∨ ((l.getD (Int.toNat ((l.length : Int) - 1)) 0).toNat : Int) = 32))))), (25, .bool false)]) (H' := s3 :: H) (fun J => ?_) ?_
        · refine AtL.split (t := 30) rfl ?_ ?_
          · intro hs30
            have hs30 : ¬ (((l.getD 0 0).toNat : Int) = 9 ∨ ((l.getD 0 0).toNat : Int) = 32) := of_decide_eq_false (bnot_true hs30)
            refine AtL.move (.inr ⟨_, _, _, rfl, rfl, rfl, rfl⟩) rfl rfl ?_
            refine AtL.move (.inr ⟨_, _, _, rfl, rfl, rfl, rfl⟩) rfl rfl ?_
            refine AtL.lenS (l := l) Tryz.underlying9 (.inr ⟨_, _, _, rfl, rfl, rfl, rfl⟩) rfl rfl ?_
            refine AtL.sub (z := (l.length : Int) - 1) (.inr ⟨_, _, _, rfl, rfl, rfl, rfl⟩) rfl rfl rfl (w64 (by omega) (by omega)) ?_
            refine AtL.indexS (l := l) (Int.toNat ((l.length : Int) - 1)) (by omega) (by omega) Tryz.underlying9 (.inr ⟨_, _, _, rfl, rfl, rfl, rfl⟩) rfl rfl rfl ?_
            refine AtL.call tf_body150 (.inr ⟨_, _, _, rfl, rfl, rfl, rfl⟩) rfl rfl (blank_ok (l.getD (Int.toNat ((l.length : Int) - 1)) 0)) ?_
            rintro _ _ ⟨rfl, rfl⟩
            refine AtL.not (.inr ⟨_, _, _, rfl, rfl, rfl, rfl⟩) rfl rfl ?_
            refine AtL.pickT (.inr ⟨_, _, _, rfl, rfl, rfl, rfl⟩) rfl rfl rfl ?_
            exact J _ (by exact ⟨(boolIs (by clear J; first | (simp [hs30]; done) | (simp_all; done) | grind)), rfl, trivial⟩)
          · intro hs30
            have hs30 : ((l.getD 0 0).toNat : Int) = 9 ∨ ((l.getD 0 0).toNat : Int) = 32 := of_decide_eq_true (bnot_false hs30)
            refine AtL.skipped rfl rfl rfl rfl rfl rfl ?_
            refine AtL.skipped rfl rfl rfl rfl rfl rfl ?_
            refine AtL.skipped rfl rfl rfl rfl rfl rfl ?_
            refine AtL.skipped rfl rfl rfl rfl rfl rfl ?_
            refine AtL.skipped rfl rfl rfl rfl rfl rfl ?_
            refine AtL.skipped rfl rfl rfl rfl rfl rfl ?_
            refine AtL.skipped rfl rfl rfl rfl rfl rfl ?_
            refine AtL.pickF (.inr ⟨_, _, _, rfl, rfl, rfl, rfl⟩) rfl rfl rfl ?_
            exact J _ (by exact ⟨(boolIs (by clear J; first | (simp [hs30]; done) | (simp_all; done) | grind)), rfl, trivial⟩)
        · skip
          refine AtL.pickF (.inl rfl) rfl rfl rfl ?_
          exact J _ (by exact ⟨(boolIs (by clear J; first | (simp [hs25]; done) | (simp_all; done) | grind)), trivial⟩)
    · skip
      refine AtL.assign (.inl rfl) rfl rfl ?_
      refine AtL.done ?_
      refine At.pick (H' := H) [] 1 rfl rfl ?_
      exact At.ret Tryz.func103 rfl rfl (⟨congrArg Value.bool (by rw [valueF_is l (all_end (by omega) ha)]), rfl⟩)
def letA (l : List UInt8) : List Bool := (List.range 256).map fun i => l.contains (UInt8.ofNat i)
theorem letA_len (l : List UInt8) : (letA l).length = 256 := by simp [letA]
theorem letA_nil : List.replicate 256 false = letA [] := by
  apply List.ext_getElem (by rw [letA_len, List.length_replicate])
  intro i h1 h2
  rw [List.getElem_replicate]
  simp only [letA, List.getElem_map]
  rfl
theorem letA_get (l : List UInt8) (c : UInt8) : (letA l).getD c.toNat false = l.contains c := by
  have h := c.toNat_lt
  simp [letA, List.getD, h, UInt8.ofNat_toNat]
theorem letA_set (l : List UInt8) (c : UInt8) : (letA l).set c.toNat true = letA (l ++ [c]) := by
  apply List.ext_getElem (by simp [letA])
  intro i h1 h2
  have hi : i < 256 := by simpa [letA] using h2
  rw [List.getElem_set]
  by_cases h : c.toNat = i
  · subst h
    simp [letA, UInt8.ofNat_toNat]
  · have hne : ¬ (UInt8.ofNat i = c) := by
      intro h3; apply h; rw [← h3, UInt8.toNat_ofNat_of_lt' hi]
    simp [letA, h, hne]
set_option maxHeartbeats 400000 in
theorem letters_ok {w0 : World} {base : Nat} {H : List Seg} {l : List UInt8} (hl : l.length ≤ 140737488355000) :
    SCalls Tryz.prog 141 [str l] w0 base (H) (fun v H' => v = .agg (tyBool.cells (letA l)).toArray ∧ H' = H) := by
  refine SCalls.of_walk (n := 16) Tryz.func141 rfl rfl rfl fun cs => ?_
  refine At.seq ?_
  refine At.region ?_
  refine AtL.allocArr tyBool (l := List.replicate 256 false) tf_zero179 tf_zarr179 (by simp) (.inl rfl) rfl ?_
  intro b1 s2 o3
  rw [List.length_replicate] at o3
  refine AtL.done ?_
  refine At.seq ?_
  refine At.seq ?_
  refine At.region ?_
  refine AtL.move (.inl rfl) rfl rfl ?_
  refine AtL.bytesOf (l := l) Tryz.underlying9 Tryz.underlying22 Tryz.underlying5 (by first | omega | (simp only [List.length_append, List.length_cons, List.length_nil]; omega) | (simp; done) | (simp; omega)) (.inl rfl) rfl rfl ?_
  intro A4 C5 s6 n8 o7
  refine AtL.lenL Tryz.underlying22 (.inl rfl) rfl rfl ?_
  refine AtL.move (.inl rfl) rfl rfl ?_
  refine AtL.done ?_
  refine At.block ?_
  refine At.loop2 (fun (k : Nat) (s2 : Seg) => [(2, .pointer (some ⟨b1, 0, none⟩)), (6, .slice A4 l.length C5), (7, .int .i64 (l.length : Int)), (8, .int .i64 (k : Int))]) (fun (k : Nat) (s2 : Seg) => s6 :: s2 :: H) (fun (k : Nat) (s2 : Seg) => k ≤ l.length ∧ Own tyBool 179 (some ⟨b1, 0, none⟩) 256 (letA (l.take k)) s2) (fun (k : Nat) (s2 : Seg) => l.length - k) 0 s2 (⟨Nat.zero_le _, by rw [List.take_zero, ← letA_nil]; exact o3⟩) ⟨rfl, rfl, rfl, rfl, trivial⟩ rfl ?_
  rintro k s2 ⟨hk, ho⟩ ihL1
  have hlen := letA_len (l.take k)
  have hlt := (l.getD k 0).toNat_lt
  have hle := Own.le_cap ho
  refine At.seq ?_
  refine At.region ?_
  refine AtL.lss (.inl rfl) rfl rfl rfl ?_
  refine AtL.done ?_
  refine At.seq ?_
  refine At.cond rfl ?_ ?_
  · intro hc1
    have hc1 : (k : Int) < (l.length : Int) := of_decide_eq_true hc1
    refine At.skip ?_
    refine At.seq ?_
    refine At.block ?_
    refine At.seq ?_
    refine At.region ?_
    refine AtL.indexL k (o7.rd (i := 0) rfl) Tryz.underlying22 tf_sz5 (.inl rfl) rfl rfl rfl rfl (by omega) ?_
    refine AtL.load (v := .int .u8 ((l.getD k 0).toNat : Int)) tf_flat5 (.inl rfl) rfl rfl (Rd.cell0 (o7.rd (i := 0) rfl) (getD_some 0 (by omega)) rfl) ?_
    refine AtL.assign (.inl rfl) rfl rfl ?_
    refine AtL.done ?_
    refine At.region ?_
    refine AtL.move (.inl rfl) rfl rfl ?_
    refine AtL.indexArr ((l.getD k 0).toNat) Tryz.underlying179 tf_sz4 (.inl rfl) rfl rfl rfl rfl (by omega) ?_
    refine AtL.setIdx (u := true) 1 ((l.getD k 0).toNat) tf_sz4 rfl ho (by omega) (.inl rfl) rfl rfl ?_
    intro s9 o10
    refine AtL.done ?_
    refine At.inBlock ?_
    refine At.region ?_
    refine AtL.add (z := (k : Int) + 1) (.inl rfl) rfl rfl rfl (w64 (by omega) (by omega)) ?_
    refine AtL.move (.inl rfl) rfl rfl ?_
    refine AtL.done ?_
    refine ihL1 (k + 1) s9 (⟨by omega, by rw [take_succ_d l k (by omega), ← letA_set]; exact o10⟩) (by omega) _ ?_
    exact ⟨(by first | rfl | exact slLen (by simp []) | exact intEq (by omega) | exact intEq (by simp []) | exact slLen (by simp []; omega)), rfl, rfl, (by first | rfl | exact slLen (by simp []) | exact intEq (by omega) | exact intEq (by simp []) | exact slLen (by simp []; omega)), trivial⟩
  · intro hc1
    have hc1 : ¬ ((k : Int) < (l.length : Int)) := of_decide_eq_false hc1
    refine At.exit rfl ?_
    refine At.seq ?_
    refine At.region ?_
    refine AtL.loadArr (ho.rd (i := 1) rfl) tf_agg179 (by simp [Ty.cells_len, tyBool, letA_len]) (.inl rfl) rfl rfl ?_
    refine AtL.storeArr (T := tyBool) (l' := letA (l.take k)) 1 tf_sz179 rfl ho rfl rfl (by simp [Ty.cells_len, tyBool, letA_len]) (.inl rfl) rfl rfl ?_
    intro s11 o12
    refine AtL.done ?_
    exact At.retMP (vs := [.agg (tyBool.cells (letA (l.take k))).toArray]) (H2 := H) [] 2 rfl rfl Tryz.func141 rfl ⟨⟨_, rfl, LoadsTo.arr (o12.rd (i := 1) rfl) tf_agg179 (by simp [Ty.cells_len, tyBool, letA_len])⟩, trivial⟩ (⟨by rw [List.take_of_length_le (show l.length ≤ k by omega)]; rfl, rfl⟩)
theorem word_no {s : List UInt8} {k : Nat} {most : Int} (hk : k < s.length) (h : (letA LET).getD (s.getD k 0).toNat false = false) : wordF s most = false := by
  rw [letA_get, ← let_eq] at h
  rw [wordF, all_bad hk h, Bool.and_false]
theorem word_yes {s : List UInt8} {most : Int} (h : s.all letterF = true) : wordF s most = decide (¬ s = [] ∧ (s.length : Int) ≤ most) := by
  rw [wordF, h, Bool.and_true]
  apply decide_eq_decide.2
  have := List.length_pos_iff (l := s)
  constructor
  · rintro ⟨h1, h2⟩; exact ⟨this.1 (by omega), h2⟩
  · rintro ⟨h1, h2⟩; exact ⟨this.2 h1, h2⟩
set_option maxHeartbeats 400000 in
theorem word_ok {w0 : World} {base : Nat} {H : List Seg} {l : List UInt8} (hl : l.length ≤ 140737488355000) (most : Int) :
    SCalls Tryz.prog 99 [str l, .int .i64 most] w0 base (H) (fun v H' => v = .bool (wordF l most) ∧ H' = H) := by
  refine SCalls.of_walk (n := 29) Tryz.func99 rfl rfl rfl fun cs => ?_
  refine At.seq ?_
  refine At.region ?_
  refine AtL.assign (.inl rfl) rfl rfl ?_
  refine AtL.done ?_
  refine At.seq ?_
  refine At.region ?_
  refine AtL.call tf_body141 (.inl rfl) rfl rfl (letters_ok (l := LET) (by decide)) ?_
  rintro _ _ ⟨rfl, hHq⟩
  obtain rfl := hHq.symm
  refine AtL.allocArr tyBool (l := List.replicate 256 false) tf_zero179 tf_zarr179 (by simp) (.inl rfl) rfl ?_
  intro b1 s2 o3
  rw [List.length_replicate] at o3
  refine AtL.storeArr (T := tyBool) (l' := letA LET) 0 tf_sz179 rfl o3 (by simp [letA_len]) rfl (by simp [Ty.cells_len, tyBool, letA_len]) (.inl rfl) rfl rfl ?_
  intro s4 o5
  refine AtL.done ?_
  refine At.seq ?_
  refine At.seq ?_
  refine At.region ?_
  refine AtL.move (.inl rfl) rfl rfl ?_
  refine AtL.bytesOf (l := l) Tryz.underlying9 Tryz.underlying22 Tryz.underlying5 (by first | omega | (simp only [List.length_append, List.length_cons, List.length_nil]; omega) | (simp; done) | (simp; omega)) (.inl rfl) rfl rfl ?_
  intro A6 C7 s8 n10 o9
  refine AtL.lenL Tryz.underlying22 (.inl rfl) rfl rfl ?_
  refine AtL.move (.inl rfl) rfl rfl ?_
  refine AtL.done ?_
  refine At.block ?_
  refine At.loop (fun (k : Nat) => [(0, str l), (1, .int .i64 most), (5, .pointer (some ⟨b1, 0, none⟩)), (10, .slice A6 l.length C7), (11, .int .i64 (l.length : Int)), (12, .int .i64 (k : Int))]) (fun (k : Nat) => s8 :: s4 :: H) (fun (k : Nat) => k ≤ l.length ∧ (l.take k).all letterF = true) (fun (k : Nat) => l.length - k) 0 (⟨Nat.zero_le _, rfl⟩) ⟨rfl, rfl, rfl, rfl, rfl, rfl, trivial⟩ rfl ?_
  rintro k ⟨hk, ha⟩ ihL1
  have hlt := (l.getD k 0).toNat_lt
  have hlen := letA_len LET
  refine At.seq ?_
  refine At.region ?_
  refine AtL.lss (.inl rfl) rfl rfl rfl ?_
  refine AtL.done ?_
  refine At.seq ?_
  refine At.cond rfl ?_ ?_
  · intro hc1
    have hc1 : (k : Int) < (l.length : Int) := of_decide_eq_true hc1
    refine At.skip ?_
    refine At.seq ?_
    refine At.block ?_
    refine At.seq ?_
    refine At.region ?_
    refine AtL.indexL k (o9.rd (i := 0) rfl) Tryz.underlying22 tf_sz5 (.inl rfl) rfl rfl rfl rfl (by omega) ?_
    refine AtL.load (v := .int .u8 ((l.getD k 0).toNat : Int)) tf_flat5 (.inl rfl) rfl rfl (Rd.cell0 (o9.rd (i := 0) rfl) (getD_some 0 (by omega)) rfl) ?_
    refine AtL.assign (.inl rfl) rfl rfl ?_
    refine AtL.done ?_
    refine At.seq ?_
    refine At.region ?_
    refine AtL.move (.inl rfl) rfl rfl ?_
    refine AtL.indexArr ((l.getD k 0).toNat) Tryz.underlying179 tf_sz4 (.inl rfl) rfl rfl rfl rfl (by omega) ?_
    refine AtL.load (v := .bool ((letA LET).getD ((l.getD k 0).toNat) false)) tf_flat4 (.inl rfl) rfl rfl (Rd.cell0 (o5.rd (i := 1) rfl) (getD_some false (show (l.getD k 0).toNat < (letA LET).length by omega)) rfl) ?_
    refine AtL.not (.inl rfl) rfl rfl ?_
    refine AtL.done ?_
    refine At.cond rfl ?_ ?_
    · intro hc2
      have hc2 : ((letA LET).getD ((l.getD k 0).toNat) false) = false := bnot_true hc2
      refine At.seq ?_
      refine At.region ?_
      refine AtL.assign (.inl rfl) rfl rfl ?_
      refine AtL.done ?_
      refine At.pick (H' := H) [] 2 rfl rfl ?_
      exact At.ret Tryz.func99 rfl rfl (⟨congrArg Value.bool (by rw [word_no (k := k) (by omega) (by simpa using hc2)]), rfl⟩)
    · intro hc2
      have hc2 : ((letA LET).getD ((l.getD k 0).toNat) false) = true := bnot_false hc2
      refine At.skip ?_
      refine At.inBlock ?_
      refine At.region ?_
      refine AtL.add (z := (k : Int) + 1) (.inl rfl) rfl rfl rfl (w64 (by omega) (by omega)) ?_
      refine AtL.move (.inl rfl) rfl rfl ?_
      refine AtL.done ?_
      refine ihL1 (k + 1) (⟨by omega, all_step (by omega) ha (by rw [let_eq, ← letA_get]; simpa using hc2)⟩) (by omega) _ ?_
      exact ⟨rfl, rfl, rfl, rfl, rfl, (by first | rfl | exact slLen (by simp []) | exact intEq (by omega) | exact intEq (by simp []) | exact slLen (by simp []; omega)), trivial⟩
  · intro hc1
    have hc1 : ¬ ((k : Int) < (l.length : Int)) := of_decide_eq_false hc1
    refine At.exit rfl ?_
    refine At.seq ?_
    refine At.region ?_
    refine AtL.move (.inl rfl) rfl rfl ?_
    refine AtL.nes (a := l) (b := []) (.inl rfl) rfl rfl rfl ?_
    refine AtL.move (.inl rfl) rfl rfl ?_
    refine AtL.join 5 (E' := [(28, .bool (decide ((¬ (l = [])) ∧ ((l.length : Int) ≤ most))))]) (H' := s8 :: s4 :: H) (fun J => ?_) ?_
    · refine AtL.split (t := 23) rfl ?_ ?_
      · intro hs23
        have hs23 : ¬ (l = []) := of_decide_eq_false (bnot_true hs23)
        refine AtL.move (.inr ⟨_, _, _, rfl, rfl, rfl, rfl⟩) rfl rfl ?_
        refine AtL.lenS (l := l) Tryz.underlying9 (.inr ⟨_, _, _, rfl, rfl, rfl, rfl⟩) rfl rfl ?_
        refine AtL.move (.inr ⟨_, _, _, rfl, rfl, rfl, rfl⟩) rfl rfl ?_
        refine AtL.leq (.inr ⟨_, _, _, rfl, rfl, rfl, rfl⟩) rfl rfl rfl ?_
        refine AtL.pickT (.inl rfl) rfl rfl rfl ?_
        exact J _ (by exact ⟨(boolIs (by clear J; first | (simp [hs23]; done) | (simp_all; done) | grind)), trivial⟩)
      · intro hs23
        have hs23 : l = [] := of_decide_eq_true (bnot_false hs23)
        refine AtL.skipped rfl rfl rfl rfl rfl rfl ?_
        refine AtL.skipped rfl rfl rfl rfl rfl rfl ?_
        refine AtL.skipped rfl rfl rfl rfl rfl rfl ?_
        refine AtL.skipped rfl rfl rfl rfl rfl rfl ?_
        refine AtL.pickF (.inl rfl) rfl rfl rfl ?_
        exact J _ (by exact ⟨(boolIs (by clear J; first | (simp [hs23]; done) | (simp_all; done) | grind)), trivial⟩)
    · skip
      refine AtL.assign (.inl rfl) rfl rfl ?_
      refine AtL.done ?_
      refine At.pick (H' := H) [] 2 rfl rfl ?_
      exact At.ret Tryz.func99 rfl rfl (⟨congrArg Value.bool (by rw [word_yes (all_end (by omega) ha)]), rfl⟩)
theorem ver_no {l : List UInt8} (h : ¬ ((l.length : Int) = 8 ∧ subl l 0 5 = [72, 84, 84, 80, 47] ∧ (48 ≤ ((l.getD 5 0).toNat : Int) ∧ ((l.getD 5 0).toNat : Int) ≤ 57) ∧ ((l.getD 6 0).toNat : Int) = 46 ∧ (48 ≤ ((l.getD 7 0).toNat : Int) ∧ ((l.getD 7 0).toNat : Int) ≤ 57))) : verF l = false := by
  rw [← Bool.not_eq_true]
  intro hv
  apply h
  simp only [verF, Bool.and_eq_true, decide_eq_true_eq, UInt8.le_iff_toNat_le] at hv
  obtain ⟨⟨⟨⟨h1, h2⟩, h3⟩, h4⟩, h5⟩ := hv
  have e1 : (48 : UInt8).toNat = 48 := rfl
  have e2 : (57 : UInt8).toNat = 57 := rfl
  rw [e1, e2] at h3 h5
  exact ⟨by omega, by rw [show subl l 0 5 = l.take 5 by simp [subl]]; exact h2, by omega, (u8_eq (c := l.getD 6 0) (n := 46) (by omega)).2 h4, by omega⟩
theorem ver_yes {l : List UInt8} (h1 : (l.length : Int) = 8) (h2 : subl l 0 5 = [72, 84, 84, 80, 47]) (h3 : 48 ≤ ((l.getD 5 0).toNat : Int) ∧ ((l.getD 5 0).toNat : Int) ≤ 57) (h4 : ((l.getD 6 0).toNat : Int) = 46) (h5 : 48 ≤ ((l.getD 7 0).toNat : Int) ∧ ((l.getD 7 0).toNat : Int) ≤ 57) : verF l = true := by
  have e1 : (48 : UInt8).toNat = 48 := rfl
  have e2 : (57 : UInt8).toNat = 57 := rfl
  simp only [verF, Bool.and_eq_true, decide_eq_true_eq, UInt8.le_iff_toNat_le, e1, e2]
  exact ⟨⟨⟨⟨by omega, by rw [show subl l 0 5 = l.take 5 by simp [subl]] at h2; exact h2⟩, by omega⟩, (u8_eq (c := l.getD 6 0) (n := 46) (by omega)).1 h4⟩, by omega⟩
theorem sub48 {c : UInt8} (h : 48 ≤ (c.toNat : Int) ∧ (c.toNat : Int) ≤ 57) : IntKind.u8.wrap ((c.toNat : Int) - 48) = (((c - 48 : UInt8)).toNat : Int) := by
  have h1 : (c - 48).toNat = c.toNat - 48 := by
    rw [UInt8.toNat_sub_of_le]
    · rfl
    · show (48 : UInt8).toNat ≤ c.toNat
      have : (48 : UInt8).toNat = 48 := rfl
      omega
  rw [h1]
  have h2 : ((c.toNat - 48 : Nat) : Int) = (c.toNat : Int) - 48 := by omega
  rw [h2]
  exact w8 (by omega) (by omega)
set_option maxHeartbeats 400000 in
theorem version_ok {w0 : World} {base : Nat} {H : List Seg} {l : List UInt8} (hl : l.length ≤ 140737488355000) :
    SCalls Tryz.prog 100 [str l] w0 base (H) (fun v H' => (verF l = false ∧ v = .tuple #[.int .u8 0, .int .u8 0, .bool false] ∧ H' = H) ∨ (verF l = true ∧ l.length = 8 ∧ v = .tuple #[.int .u8 ((l.getD 5 0 - 48).toNat : Int), .int .u8 ((l.getD 7 0 - 48).toNat : Int), .bool true] ∧ H' = H)) := by
  refine SCalls.of_walk (n := 36) Tryz.func100 rfl rfl rfl fun cs => ?_
  refine At.seq ?_
  refine At.region ?_
  refine AtL.assign (.inl rfl) rfl rfl ?_
  refine AtL.assign (.inl rfl) rfl rfl ?_
  refine AtL.assign (.inl rfl) rfl rfl ?_
  refine AtL.done ?_
  refine At.seq ?_
  refine At.seq ?_
  refine At.region ?_
  refine AtL.move (.inl rfl) rfl rfl ?_
  refine AtL.lenS (l := l) Tryz.underlying9 (.inl rfl) rfl rfl ?_
  refine AtL.nei (.inl rfl) rfl rfl rfl ?_
  refine AtL.move (.inl rfl) rfl rfl ?_
  refine AtL.join 4 (E' := [(12, .bool (decide ((¬ ((l.length : Int) = 8)) ∨ (¬ (subl l 0 5 = [72, 84, 84, 80, 47]))))), (0, str l)]) (H' := H) (fun J => ?_) ?_
  · refine AtL.split (t := 8) rfl ?_ ?_
    · intro hs8
      have hs8 : ¬ ((l.length : Int) = 8) := of_decide_eq_false (bnot_true hs8)
      refine AtL.skipped rfl rfl rfl rfl rfl rfl ?_
      refine AtL.skipped rfl rfl rfl rfl rfl rfl ?_
      refine AtL.skipped rfl rfl rfl rfl rfl rfl ?_
      refine AtL.pickT (.inl rfl) rfl rfl rfl ?_
      exact J _ (by exact ⟨(boolIs (by clear J; first | (simp [hs8]; done) | (simp_all; done) | grind)), rfl, trivial⟩)
    · intro hs8
      have hs8 : (l.length : Int) = 8 := of_decide_eq_true (bnot_false hs8)
      refine AtL.move (.inr ⟨_, _, _, rfl, rfl, rfl, rfl⟩) rfl rfl ?_
      refine AtL.sliceS (l := l) 0 5 rfl (evBound_some rfl rfl) (by omega) (by omega) Tryz.underlying9 (.inr ⟨_, _, _, rfl, rfl, rfl, rfl⟩) rfl rfl ?_
      refine AtL.nes (a := subl l 0 5) (b := [72, 84, 84, 80, 47]) (.inr ⟨_, _, _, rfl, rfl, rfl, rfl⟩) rfl rfl rfl ?_
      refine AtL.pickF (.inl rfl) rfl rfl rfl ?_
      exact J _ (by exact ⟨(boolIs (by clear J; first | (simp [hs8]; done) | (simp_all; done) | grind)), rfl, trivial⟩)
  · skip
    refine AtL.move (.inl rfl) rfl rfl ?_
    refine AtL.join 5 (E' := [(18, .bool (decide (((¬ ((l.length : Int) = 8)) ∨ (¬ (subl l 0 5 = [72, 84, 84, 80, 47]))) ∨ (¬ (48 ≤ ((l.getD 5 0).toNat : Int) ∧ ((l.getD 5 0).toNat : Int) ≤ 57))))), (0, str l)]) (H' := H) (fun J => ?_) ?_
    · refine AtL.split (t := 13) rfl ?_ ?_
      · intro hs13
        have hs13 : (¬ ((l.length : Int) = 8)) ∨ (¬ (subl l 0 5 = [72, 84, 84, 80, 47])) := of_decide_eq_true hs13
        refine AtL.skipped rfl rfl rfl rfl rfl rfl ?_
        refine AtL.skipped rfl rfl rfl rfl rfl rfl ?_
        refine AtL.skipped rfl rfl rfl rfl rfl rfl ?_
        refine AtL.skipped rfl rfl rfl rfl rfl rfl ?_
        refine AtL.pickT (.inl rfl) rfl rfl rfl ?_
        exact J _ (by exact ⟨(boolIs (by clear J; first | (simp [hs13]; done) | (simp_all; done) | grind)), rfl, trivial⟩)
      · intro hs13
        have hs13 : ¬ ((¬ ((l.length : Int) = 8)) ∨ (¬ (subl l 0 5 = [72, 84, 84, 80, 47]))) := of_decide_eq_false hs13
        refine AtL.move (.inr ⟨_, _, _, rfl, rfl, rfl, rfl⟩) rfl rfl ?_
        refine AtL.indexS (l := l) 5 rfl (by omega) Tryz.underlying9 (.inr ⟨_, _, _, rfl, rfl, rfl, rfl⟩) rfl rfl rfl ?_
        refine AtL.call tf_body142 (.inr ⟨_, _, _, rfl, rfl, rfl, rfl⟩) rfl rfl (digit_ok (l.getD 5 0)) ?_
        rintro _ _ ⟨rfl, hHq⟩
        obtain rfl := hHq.symm
        refine AtL.not (.inr ⟨_, _, _, rfl, rfl, rfl, rfl⟩) rfl rfl ?_
        refine AtL.pickF (.inl rfl) rfl rfl rfl ?_
        exact J _ (by exact ⟨(boolIs (by clear J; first | (simp [hs13]; done) | (simp_all; done) | grind)), rfl, trivial⟩)
    · skip
      refine AtL.move (.inl rfl) rfl rfl ?_
      refine AtL.join 4 (E' := [(23, .bool (decide ((((¬ ((l.length : Int) = 8)) ∨ (¬ (subl l 0 5 = [72, 84, 84, 80, 47]))) ∨ (¬ (48 ≤ ((l.getD 5 0).toNat : Int) ∧ ((l.getD 5 0).toNat : Int) ≤ 57))) ∨ (¬ (((l.getD 6 0).toNat : Int) = 46))))), (0, str l)]) (H' := H) (fun J => ?_) ?_
      · refine AtL.split (t := 19) rfl ?_ ?_
        · intro hs19
          have hs19 : ((¬ ((l.length : Int) = 8)) ∨ (¬ (subl l 0 5 = [72, 84, 84, 80, 47]))) ∨ (¬ (48 ≤ ((l.getD 5 0).toNat : Int) ∧ ((l.getD 5 0).toNat : Int) ≤ 57)) := of_decide_eq_true hs19
          refine AtL.skipped rfl rfl rfl rfl rfl rfl ?_
          refine AtL.skipped rfl rfl rfl rfl rfl rfl ?_
          refine AtL.skipped rfl rfl rfl rfl rfl rfl ?_
          refine AtL.pickT (.inl rfl) rfl rfl rfl ?_
          exact J _ (by exact ⟨(boolIs (by clear J; first | (simp [hs19]; done) | (simp_all; done) | grind)), rfl, trivial⟩)
        · intro hs19
          have hs19 : ¬ (((¬ ((l.length : Int) = 8)) ∨ (¬ (subl l 0 5 = [72, 84, 84, 80, 47]))) ∨ (¬ (48 ≤ ((l.getD 5 0).toNat : Int) ∧ ((l.getD 5 0).toNat : Int) ≤ 57))) := of_decide_eq_false hs19
          refine AtL.move (.inr ⟨_, _, _, rfl, rfl, rfl, rfl⟩) rfl rfl ?_
          refine AtL.indexS (l := l) 6 rfl (by omega) Tryz.underlying9 (.inr ⟨_, _, _, rfl, rfl, rfl, rfl⟩) rfl rfl rfl ?_
          refine AtL.nei (.inr ⟨_, _, _, rfl, rfl, rfl, rfl⟩) rfl rfl rfl ?_
          refine AtL.pickF (.inl rfl) rfl rfl rfl ?_
          exact J _ (by exact ⟨(boolIs (by clear J; first | (simp [hs19]; done) | (simp_all; done) | grind)), rfl, trivial⟩)
      · skip
        refine AtL.move (.inl rfl) rfl rfl ?_
        refine AtL.join 5 (E' := [(29, .bool (decide (((((¬ ((l.length : Int) = 8)) ∨ (¬ (subl l 0 5 = [72, 84, 84, 80, 47]))) ∨ (¬ (48 ≤ ((l.getD 5 0).toNat : Int) ∧ ((l.getD 5 0).toNat : Int) ≤ 57))) ∨ (¬ (((l.getD 6 0).toNat : Int) = 46))) ∨ (¬ (48 ≤ ((l.getD 7 0).toNat : Int) ∧ ((l.getD 7 0).toNat : Int) ≤ 57))))), (0, str l)]) (H' := H) (fun J => ?_) ?_
        · refine AtL.split (t := 24) rfl ?_ ?_
          · intro hs24
            have hs24 : (((¬ ((l.length : Int) = 8)) ∨ (¬ (subl l 0 5 = [72, 84, 84, 80, 47]))) ∨ (¬ (48 ≤ ((l.getD 5 0).toNat : Int) ∧ ((l.getD 5 0).toNat : Int) ≤ 57))) ∨ (¬ (((l.getD 6 0).toNat : Int) = 46)) := of_decide_eq_true hs24
            refine AtL.skipped rfl rfl rfl rfl rfl rfl ?_
            refine AtL.skipped rfl rfl rfl rfl rfl rfl ?_
            refine AtL.skipped rfl rfl rfl rfl rfl rfl ?_
            refine AtL.skipped rfl rfl rfl rfl rfl rfl ?_
            refine AtL.pickT (.inl rfl) rfl rfl rfl ?_
            exact J _ (by exact ⟨(boolIs (by clear J; first | (simp [hs24]; done) | (simp_all; done) | grind)), rfl, trivial⟩)
          · intro hs24
            have hs24 : ¬ ((((¬ ((l.length : Int) = 8)) ∨ (¬ (subl l 0 5 = [72, 84, 84, 80, 47]))) ∨ (¬ (48 ≤ ((l.getD 5 0).toNat : Int) ∧ ((l.getD 5 0).toNat : Int) ≤ 57))) ∨ (¬ (((l.getD 6 0).toNat : Int) = 46))) := of_decide_eq_false hs24
            refine AtL.move (.inr ⟨_, _, _, rfl, rfl, rfl, rfl⟩) rfl rfl ?_
            refine AtL.indexS (l := l) 7 rfl (by omega) Tryz.underlying9 (.inr ⟨_, _, _, rfl, rfl, rfl, rfl⟩) rfl rfl rfl ?_
            refine AtL.call tf_body142 (.inr ⟨_, _, _, rfl, rfl, rfl, rfl⟩) rfl rfl (digit_ok (l.getD 7 0)) ?_
            rintro _ _ ⟨rfl, hHq⟩
            obtain rfl := hHq.symm
            refine AtL.not (.inr ⟨_, _, _, rfl, rfl, rfl, rfl⟩) rfl rfl ?_
            refine AtL.pickF (.inl rfl) rfl rfl rfl ?_
            exact J _ (by exact ⟨(boolIs (by clear J; first | (simp [hs24]; done) | (simp_all; done) | grind)), rfl, trivial⟩)
        · skip
          refine AtL.done ?_
          refine At.cond rfl ?_ ?_
          · intro hc1
            have hc1 : ((((¬ ((l.length : Int) = 8)) ∨ (¬ (subl l 0 5 = [72, 84, 84, 80, 47]))) ∨ (¬ (48 ≤ ((l.getD 5 0).toNat : Int) ∧ ((l.getD 5 0).toNat : Int) ≤ 57))) ∨ (¬ (((l.getD 6 0).toNat : Int) = 46))) ∨ (¬ (48 ≤ ((l.getD 7 0).toNat : Int) ∧ ((l.getD 7 0).toNat : Int) ≤ 57)) := of_decide_eq_true hc1
            refine At.seq ?_
            refine At.region ?_
            refine AtL.assign (.inl rfl) rfl rfl ?_
            refine AtL.assign (.inl rfl) rfl rfl ?_
            refine AtL.assign (.inl rfl) rfl rfl ?_
            refine AtL.done ?_
            exact At.ret Tryz.func100 rfl rfl (Or.inl ⟨ver_no (by rintro ⟨a, b, c, d, e⟩; rcases hc1 with (((h | h) | h) | h) | h <;> contradiction), rfl, rfl⟩)
          · intro hc1
            have hc1 : ¬ (((((¬ ((l.length : Int) = 8)) ∨ (¬ (subl l 0 5 = [72, 84, 84, 80, 47]))) ∨ (¬ (48 ≤ ((l.getD 5 0).toNat : Int) ∧ ((l.getD 5 0).toNat : Int) ≤ 57))) ∨ (¬ (((l.getD 6 0).toNat : Int) = 46))) ∨ (¬ (48 ≤ ((l.getD 7 0).toNat : Int) ∧ ((l.getD 7 0).toNat : Int) ≤ 57))) := of_decide_eq_false hc1
            simp only [not_or, Decidable.not_not] at hc1
            obtain ⟨⟨⟨⟨v1, v2⟩, v3⟩, v4⟩, v5⟩ := hc1
            refine At.skip ?_
            refine At.seq ?_
            refine At.draw (es := []) (pv := [(0, str l), (1, .int .u8 ((l.getD 5 0).toNat : Int)), (2, .int .u8 ((l.getD 5 0 - 48 : UInt8).toNat : Int)), (3, str l), (4, .int .u8 ((l.getD 7 0).toNat : Int)), (5, .int .u8 ((l.getD 7 0 - 48 : UInt8).toNat : Int)), (6, .int .u8 ((l.getD 5 0 - 48 : UInt8).toNat : Int)), (7, .int .u8 ((l.getD 7 0 - 48 : UInt8).toNat : Int)), (8, .bool true)]) tf_mixed (by kernel_rfl) (by kernel_rfl) (by kernel_rfl) ?_
            refine ⟨⟨.inr ⟨_, rfl, rfl, .inl ⟨rfl, Do.move rfl⟩⟩, .inr ⟨_, rfl, rfl, .inl ⟨rfl, Do.indexS (l := l) 5 rfl (by omega) Tryz.underlying9 rfl rfl⟩⟩, .inr ⟨_, rfl, rfl, .inl ⟨rfl, Do.sub (z := ((l.getD 5 0 - 48 : UInt8).toNat : Int)) rfl rfl (sub48 v3)⟩⟩, .inr ⟨_, rfl, rfl, .inl ⟨rfl, Do.move rfl⟩⟩, .inr ⟨_, rfl, rfl, .inl ⟨rfl, Do.indexS (l := l) 7 rfl (by omega) Tryz.underlying9 rfl rfl⟩⟩, .inr ⟨_, rfl, rfl, .inl ⟨rfl, Do.sub (z := ((l.getD 7 0 - 48 : UInt8).toNat : Int)) rfl rfl (sub48 v5)⟩⟩, .inr ⟨_, rfl, rfl, .inl ⟨rfl, Do.assign rfl⟩⟩, .inr ⟨_, rfl, rfl, .inl ⟨rfl, Do.assign rfl⟩⟩, .inr ⟨_, rfl, rfl, .inl ⟨rfl, Do.assign rfl⟩⟩, trivial⟩, by kernel_rfl, ?_⟩
            refine At.mono (E' := [(2, .int .u8 ((l.getD 5 0 - 48 : UInt8).toNat : Int)), (3, .int .u8 ((l.getD 7 0 - 48 : UInt8).toNat : Int)), (4, .bool true)]) ⟨rfl, rfl, rfl, trivial⟩ ?_
            exact At.ret Tryz.func100 rfl rfl (Or.inr ⟨ver_yes v1 v2 v3 v4 v5, by omega, rfl, rfl⟩)
end Go.Proofs.YtlkdmbpbjhjkfaaGreatDoor
namespace Go.Proofs.YtlkdmbpbjhjkfaaGreatDoor
set_option linter.unusedVariables false
set_option linter.unusedSimpArgs false
set_option maxRecDepth 100000
theorem allF_snoc (fs : List Fld) (k : Nat) (h : k < fs.length) (nm : List UInt8) : allF (fs.take (k + 1)) nm = allF (fs.take k) nm ++ (if lowerF (fs.getD k ([], [])).1 = lowerF nm then [(fs.getD k ([], [])).2] else []) := by
  have h1 : fs.take (k + 1) = fs.take k ++ [fs.getD k ([], [])] := by rw [List.take_succ_eq_append_getElem h]; simp [List.getD, h]
  rw [h1, allF, allF, List.filter_append, List.map_append]
  congr 1
  by_cases h2 : lowerF (fs.getD k ([], [])).1 = lowerF nm
  · rw [if_pos h2]; simp only [List.filter_cons, h2, decide_true, if_true, List.filter_nil, List.map_cons, List.map_nil]
  · rw [if_neg h2]; simp only [List.filter_cons, h2, decide_false, Bool.false_eq_true, if_false, List.filter_nil, List.map_nil]
theorem headD_getD (l : List (List UInt8)) : l.headD [] = l.getD 0 [] := by cases l <;> rfl
theorem allF_len (fs : List Fld) (nm : List UInt8) : (allF fs nm).length ≤ fs.length := by
  simp only [allF, List.length_map]
  exact List.length_filter_le _ _
set_option maxHeartbeats 400000 in
theorem all_ok {w0 : World} {base : Nat} {H : List Seg} {m t : List UInt8} {minor : Int} {A : Option Addr} {C : Nat} {fs : List (List UInt8 × List UInt8)} (h : Rd tyField w0 base H A C fs) {nm : List UInt8} (hnm : nm.length ≤ 140737488355000) (hfl : fs.length ≤ 1000) (hb : ∀ f ∈ fs, f.1.length ≤ 140737488355000 ∧ f.2.length ≤ 140737488355000) :
    SCalls Tryz.prog 117 [.agg #[str m, str t, .int .i64 minor, .slice A fs.length C], str nm] w0 base (H) (fun v H' => ∃ x : Sl tyS 9, x.l = allF fs nm ∧ v = .slice x.A x.l.length x.C ∧ H' = x.s :: H) := by
  have hle0 := h.le
  have hcap0 := h.cap
  refine SCalls.of_walk (n := 28) Tryz.func117 rfl rfl rfl fun cs => ?_
  refine At.seq ?_
  refine At.region ?_
  refine AtL.box (cs := #[str m, str t, .int .i64 minor, .slice A fs.length C]) rfl (.inl rfl) rfl rfl ?_
  intro b1
  refine AtL.assign (.inl rfl) rfl rfl ?_
  refine AtL.done ?_
  refine At.seq ?_
  refine At.region ?_
  refine AtL.assign (.inl rfl) rfl rfl ?_
  refine AtL.done ?_
  refine At.seq ?_
  refine At.seq ?_
  refine At.region ?_
  refine AtL.fieldAddrB tf_fo47_3 (.inl rfl) rfl rfl rfl ?_
  refine AtL.load tf_flat45 (.inl rfl) rfl rfl (Cell.own 0 0 rfl rfl rfl) ?_
  refine AtL.lenL Tryz.underlying45 (.inl rfl) rfl rfl ?_
  refine AtL.move (.inl rfl) rfl rfl ?_
  refine AtL.done ?_
  refine At.block ?_
  refine At.nil ?_
  refine At.pick (H' := [] :: H) [0] 2 rfl rfl ?_
  refine At.loop2 (fun (k : Nat) (x : Sl tyS 9) => [(1, str nm), (5, .slice x.A x.l.length x.C), (9, .slice A fs.length C), (10, .int .i64 (fs.length : Int)), (11, .int .i64 (k : Int))]) (fun (k : Nat) (x : Sl tyS 9) => x.s :: H) (fun (k : Nat) (x : Sl tyS 9) => k ≤ fs.length ∧ x.l = allF (fs.take k) nm) (fun (k : Nat) (x : Sl tyS 9) => fs.length - k) 0 Sl.nil (⟨Nat.zero_le _, rfl⟩) ⟨rfl, rfl, rfl, rfl, rfl, trivial⟩ rfl ?_
  rintro k x ⟨hk, hx⟩ ihL1
  have hcap := Own.cap_le x.own
  have hle := Own.le_cap x.own
  have hxl := allF_len (fs.take k) nm
  rw [← hx, List.length_take] at hxl
  refine At.seq ?_
  refine At.region ?_
  refine AtL.lss (.inl rfl) rfl rfl rfl ?_
  refine AtL.done ?_
  refine At.seq ?_
  refine At.cond rfl ?_ ?_
  · intro hc1
    have hc1 : (k : Int) < (fs.length : Int) := of_decide_eq_true hc1
    have hbk := hb _ (getD_mem (l := fs) (i := k) (d := (([], []) : List UInt8 × List UInt8)) (by omega))
    refine At.skip ?_
    refine At.seq ?_
    refine At.block ?_
    refine At.seq ?_
    refine At.region ?_
    refine AtL.indexL k (Rd.skip 1 h) Tryz.underlying45 tf_sz78 (.inl rfl) rfl rfl rfl rfl (by omega) ?_
    refine AtL.loadE (n := 0) (Rd.skip 1 h) (getD_some (([], []) : List UInt8 × List UInt8) (by omega)) rfl tf_agg78 (.inl rfl) rfl rfl ?_
    refine AtL.alloc tf_zero78 (cs := #[str [], str []]) rfl (.inl rfl) rfl ?_
    intro b2
    refine AtL.store (H' := [(b2, .cells #[str ((fs.getD k (([], []) : List UInt8 × List UInt8)).1), str ((fs.getD k (([], []) : List UInt8 × List UInt8)).2)] 78 (0, 0))] :: x.s :: H) 0 0 tf_sz78 (.inl rfl) rfl rfl rfl rfl rfl rfl rfl rfl rfl ?_
    refine AtL.done ?_
    refine At.seq ?_
    refine At.region ?_
    refine AtL.fieldAddrB tf_fo78_0 (.inl rfl) rfl rfl rfl ?_
    refine AtL.load tf_flat9 (.inl rfl) rfl rfl (Cell.own 0 0 rfl rfl rfl) ?_
    refine AtL.call tf_body119 (.inl rfl) rfl rfl (lower_ok (l := (fs.getD k (([], []) : List UInt8 × List UInt8)).1) (by first | omega | (simp only [List.length_append, List.length_cons, List.length_nil]; omega) | (simp; done) | (simp; omega))) ?_
    rintro _ _ ⟨rfl, rfl⟩
    refine AtL.move (.inl rfl) rfl rfl ?_
    refine AtL.call tf_body119 (.inl rfl) rfl rfl (lower_ok (l := nm) (by first | omega | (simp only [List.length_append, List.length_cons, List.length_nil]; omega) | (simp; done) | (simp; omega))) ?_
    rintro _ _ ⟨rfl, rfl⟩
    refine AtL.eqs (a := lowerF ((fs.getD k (([], []) : List UInt8 × List UInt8)).1)) (b := lowerF nm) (.inl rfl) rfl rfl rfl ?_
    refine AtL.done ?_
    refine At.cond rfl ?_ ?_
    · intro hc2
      have hc2 : lowerF ((fs.getD k (([], []) : List UInt8 × List UInt8)).1) = lowerF nm := of_decide_eq_true hc2
      refine At.region ?_
      refine AtL.move (.inl rfl) rfl rfl ?_
      refine AtL.fieldAddrB tf_fo78_1 (.inl rfl) rfl rfl rfl ?_
      refine AtL.load tf_flat9 (.inl rfl) rfl rfl (Cell.own 0 0 rfl rfl rfl) ?_
      refine AtL.buildSlice (cs := [str ((fs.getD k (([], []) : List UInt8 × List UInt8)).2)]) Tryz.underlying109 tf_zero9 tf_sz9 rfl rfl (.inl rfl) rfl rfl rfl ?_
      intro b3
      refine AtL.own1 tyS (l := ([(fs.getD k (([], []) : List UInt8 × List UInt8)).2] : List (List UInt8))) rfl rfl (by first | decide | simp) ?_
      intro s4 o5
      refine AtL.append (l := x.l) (news := [(fs.getD k (([], []) : List UInt8 × List UInt8)).2]) 2 tf_el109 rfl x.own (o5.rd (i := 0) rfl) (by first | omega | (simp only [List.length_append, List.length_cons, List.length_nil]; omega) | (simp; done) | (simp; omega)) (.inl rfl) rfl rfl rfl ?_
      intro A6 C7 s8 o9
      refine AtL.assign (.inl rfl) rfl rfl ?_
      refine AtL.done ?_
      refine At.inBlock ?_
      refine At.region ?_
      refine AtL.add (z := (k : Int) + 1) (.inl rfl) rfl rfl rfl (w64 (by omega) (by omega)) ?_
      refine AtL.move (.inl rfl) rfl rfl ?_
      refine AtL.done ?_
      refine At.pick (H' := s8 :: H) [2] 3 rfl rfl ?_
      refine ihL1 (k + 1) (⟨A6, C7, x.l ++ ([(fs.getD k (([], []) : List UInt8 × List UInt8)).2]), s8, o9⟩) (⟨by omega, by rw [allF_snoc _ _ (by omega), if_pos hc2, ← hx]⟩) (by omega) _ ?_
      exact ⟨rfl, (by first | rfl | exact slLen (by simp []) | exact intEq (by omega) | exact intEq (by simp []) | exact slLen (by simp []; omega)), rfl, rfl, (by first | rfl | exact slLen (by simp []) | exact intEq (by omega) | exact intEq (by simp []) | exact slLen (by simp []; omega)), trivial⟩
    · intro hc2
      have hc2 : ¬ (lowerF ((fs.getD k (([], []) : List UInt8 × List UInt8)).1) = lowerF nm) := of_decide_eq_false hc2
      refine At.skip ?_
      refine At.inBlock ?_
      refine At.region ?_
      refine AtL.add (z := (k : Int) + 1) (.inl rfl) rfl rfl rfl (w64 (by omega) (by omega)) ?_
      refine AtL.move (.inl rfl) rfl rfl ?_
      refine AtL.done ?_
      refine At.pick (H' := x.s :: H) [1] 2 rfl rfl ?_
      refine ihL1 (k + 1) x (⟨by omega, by rw [allF_snoc _ _ (by omega), if_neg hc2, List.append_nil, ← hx]⟩) (by omega) _ ?_
      exact ⟨rfl, (by first | rfl | exact slLen (by simp []) | exact intEq (by omega) | exact intEq (by simp []) | exact slLen (by simp []; omega)), rfl, rfl, (by first | rfl | exact slLen (by simp []) | exact intEq (by omega) | exact intEq (by simp []) | exact slLen (by simp []; omega)), trivial⟩
  · intro hc1
    have hc1 : ¬ ((k : Int) < (fs.length : Int)) := of_decide_eq_false hc1
    refine At.exit rfl ?_
    refine At.seq ?_
    refine At.region ?_
    refine AtL.move (.inl rfl) rfl rfl ?_
    refine AtL.assign (.inl rfl) rfl rfl ?_
    refine AtL.done ?_
    exact At.ret Tryz.func117 rfl rfl (⟨x, by rw [List.take_of_length_le (show fs.length ≤ k by omega)] at hx; exact hx, rfl, rfl⟩)
set_option maxHeartbeats 400000 in
theorem field_ok {w0 : World} {base : Nat} {H : List Seg} {m t : List UInt8} {minor : Int} {A : Option Addr} {C : Nat} {fs : List (List UInt8 × List UInt8)} (h : Rd tyField w0 base H A C fs) {nm : List UInt8} (hnm : nm.length ≤ 140737488355000) (hfl : fs.length ≤ 1000) (hb : ∀ f ∈ fs, f.1.length ≤ 140737488355000 ∧ f.2.length ≤ 140737488355000) :
    SCalls Tryz.prog 76 [.agg #[str m, str t, .int .i64 minor, .slice A fs.length C], str nm] w0 base (H) (fun v H' => v = .tuple #[str (fieldF fs nm).1, int ((fieldF fs nm).2 : Int)] ∧ H' = H) := by
  refine SCalls.of_walk (n := 18) Tryz.func76 rfl rfl rfl fun cs => ?_
  refine At.seq ?_
  refine At.region ?_
  refine AtL.box (cs := #[str m, str t, .int .i64 minor, .slice A fs.length C]) rfl (.inl rfl) rfl rfl ?_
  intro b1
  refine AtL.assign (.inl rfl) rfl rfl ?_
  refine AtL.assign (.inl rfl) rfl rfl ?_
  refine AtL.done ?_
  refine At.seq ?_
  refine At.region ?_
  refine AtL.loadN (cs := [str m, str t, .int .i64 minor, .slice A fs.length C]) tf_agg47 (.inl rfl) rfl rfl rfl (cellsOwn 0 0 0 rfl rfl rfl) ?_
  refine AtL.move (.inl rfl) rfl rfl ?_
  refine AtL.call tf_body117 (.inl rfl) rfl rfl (all_ok (fs := fs) (Rd.skip 1 h) (nm := nm) (by first | omega | decide) hfl hb) ?_
  rintro _ _ ⟨⟨A2, C3, l4, s5, o6⟩, hx7, rfl, rfl⟩
  obtain rfl : allF fs nm = l4 := hx7.symm
  refine AtL.assign (.inl rfl) rfl rfl ?_
  refine AtL.done ?_
  refine At.seq ?_
  refine At.seq ?_
  refine At.region ?_
  refine AtL.move (.inl rfl) rfl rfl ?_
  refine AtL.lenL Tryz.underlying109 (.inl rfl) rfl rfl ?_
  refine AtL.eqi (.inl rfl) rfl rfl rfl ?_
  refine AtL.done ?_
  refine At.cond rfl ?_ ?_
  · intro hc1
    have hc1 : ((allF fs nm).length : Int) = 0 := of_decide_eq_true hc1
    have hnil : allF fs nm = [] := List.eq_nil_of_length_eq_zero (by omega)
    refine At.seq ?_
    refine At.region ?_
    refine AtL.assign (.inl rfl) rfl rfl ?_
    refine AtL.assign (.inl rfl) rfl rfl ?_
    refine AtL.done ?_
    refine At.pick (H' := H) [] 2 rfl rfl ?_
    exact At.ret Tryz.func76 rfl rfl (⟨by rw [fieldF, hnil]; rfl, rfl⟩)
  · intro hc1
    have hc1 : ¬ (((allF fs nm).length : Int) = 0) := of_decide_eq_false hc1
    have hcons : 0 < (allF fs nm).length := by omega
    refine At.skip ?_
    refine At.seq ?_
    refine At.region ?_
    refine AtL.move (.inl rfl) rfl rfl ?_
    refine AtL.indexL 0 (o6.rd (i := 0) rfl) Tryz.underlying109 tf_sz9 (.inl rfl) rfl rfl rfl rfl (by omega) ?_
    refine AtL.load (v := str ((allF fs nm).getD 0 [])) tf_flat9 (.inl rfl) rfl rfl (Rd.cell0 (o6.rd (i := 0) rfl) (getD_some [] (by omega)) rfl) ?_
    refine AtL.move (.inl rfl) rfl rfl ?_
    refine AtL.lenL Tryz.underlying109 (.inl rfl) rfl rfl ?_
    refine AtL.assign (.inl rfl) rfl rfl ?_
    refine AtL.assign (.inl rfl) rfl rfl ?_
    refine AtL.done ?_
    refine At.pick (H' := H) [] 2 rfl rfl ?_
    exact At.ret Tryz.func76 rfl rfl (⟨by rw [fieldF, headD_getD]; rfl, rfl⟩)
set_option maxHeartbeats 400000 in
theorem hosts_ok {w0 : World} {base : Nat} {H : List Seg} {m t : List UInt8} {minor : Int} {A : Option Addr} {C : Nat} {fs : List (List UInt8 × List UInt8)} (h : Rd tyField w0 base H A C fs) (hfl : fs.length ≤ 1000) (hb : ∀ f ∈ fs, f.1.length ≤ 140737488355000 ∧ f.2.length ≤ 140737488355000) :
    SCalls Tryz.prog 104 [.agg #[str m, str t, .int .i64 minor, .slice A fs.length C]] w0 base (H) (fun v H' => v = .bool (hostsF fs minor) ∧ H' = H) := by
  refine SCalls.of_walk (n := 21) Tryz.func104 rfl rfl rfl fun cs => ?_
  refine At.seq ?_
  refine At.region ?_
  refine AtL.box (cs := #[str m, str t, .int .i64 minor, .slice A fs.length C]) rfl (.inl rfl) rfl rfl ?_
  intro b1
  refine AtL.assign (.inl rfl) rfl rfl ?_
  refine AtL.done ?_
  refine At.seq ?_
  refine At.region ?_
  refine AtL.loadN (cs := [str m, str t, .int .i64 minor, .slice A fs.length C]) tf_agg47 (.inl rfl) rfl rfl rfl (cellsOwn 0 0 0 rfl rfl rfl) ?_
  refine AtL.call tf_body76 (.inl rfl) rfl rfl (field_ok (fs := fs) (Rd.skip 1 h) (nm := [104, 111, 115, 116]) (by first | omega | decide) hfl hb) ?_
  rintro _ _ ⟨rfl, rfl⟩
  refine AtL.move (.inl rfl) rfl rfl ?_
  refine AtL.extract (.inl rfl) rfl rfl rfl ?_
  refine AtL.extract (.inl rfl) rfl rfl rfl ?_
  refine AtL.assign (.inl rfl) rfl rfl ?_
  refine AtL.assign (.inl rfl) rfl rfl ?_
  refine AtL.done ?_
  refine At.seq ?_
  refine At.region ?_
  refine AtL.move (.inl rfl) rfl rfl ?_
  refine AtL.eqi (.inl rfl) rfl rfl rfl ?_
  refine AtL.move (.inl rfl) rfl rfl ?_
  refine AtL.join 8 (E' := [(20, .bool (decide ((((fieldF fs [104, 111, 115, 116]).2 : Int) = 1) ∨ ((((fieldF fs [104, 111, 115, 116]).2 : Int) = 0) ∧ ((minor : Int) = 0)))))]) (H' := [(b1, .cells #[str m, str t, .int .i64 minor, .slice A fs.length C] 47 (0, 0))] :: H) (fun J => ?_) ?_
  · refine AtL.split (t := 12) rfl ?_ ?_
    · intro hs12
      have hs12 : ((fieldF fs [104, 111, 115, 116]).2 : Int) = 1 := of_decide_eq_true hs12
      refine AtL.skipped rfl rfl rfl rfl rfl rfl ?_
      refine AtL.skipped rfl rfl rfl rfl rfl rfl ?_
      refine AtL.skipped rfl rfl rfl rfl rfl rfl ?_
      refine AtL.skippedU rfl rfl rfl rfl rfl ?_
      refine AtL.skippedU rfl rfl rfl rfl rfl ?_
      refine AtL.skippedU rfl rfl rfl rfl rfl ?_
      refine AtL.skipped rfl rfl rfl rfl rfl rfl ?_
      refine AtL.pickT (.inl rfl) rfl rfl rfl ?_
      exact J _ (by exact ⟨(boolIs (by clear J; first | (simp [hs12]; done) | (simp_all; done) | grind)), trivial⟩)
    · intro hs12
      have hs12 : ¬ (((fieldF fs [104, 111, 115, 116]).2 : Int) = 1) := of_decide_eq_false hs12
      refine AtL.move (.inr ⟨_, _, _, rfl, rfl, rfl, rfl⟩) rfl rfl ?_
      refine AtL.eqi (.inr ⟨_, _, _, rfl, rfl, rfl, rfl⟩) rfl rfl rfl ?_
      refine AtL.move (.inr ⟨_, _, _, rfl, rfl, rfl, rfl⟩) rfl rfl ?_
      refine AtL.join 4 (E' := [(19, .bool (decide ((((fieldF fs [104, 111, 115, 116]).2 : Int) = 0) ∧ ((minor : Int) = 0)))), (12, .bool false)]) (H' := [(b1, .cells #[str m, str t, .int .i64 minor, .slice A fs.length C] 47 (0, 0))] :: H) (fun J => ?_) ?_
      · refine AtL.split (t := 15) rfl ?_ ?_
        · intro hs15
          have hs15 : ((fieldF fs [104, 111, 115, 116]).2 : Int) = 0 := of_decide_eq_true hs15
          refine AtL.fieldAddrB tf_fo47_2 (.inr ⟨_, _, _, rfl, rfl, rfl, rfl⟩) rfl rfl rfl ?_
          refine AtL.load tf_flat3 (.inr ⟨_, _, _, rfl, rfl, rfl, rfl⟩) rfl rfl (Cell.own 0 0 rfl rfl rfl) ?_
          refine AtL.eqi (.inr ⟨_, _, _, rfl, rfl, rfl, rfl⟩) rfl rfl rfl ?_
          refine AtL.pickT (.inr ⟨_, _, _, rfl, rfl, rfl, rfl⟩) rfl rfl rfl ?_
          exact J _ (by exact ⟨(boolIs (by clear J; first | (simp [hs15]; done) | (simp_all; done) | grind)), rfl, trivial⟩)
        · intro hs15
          have hs15 : ¬ (((fieldF fs [104, 111, 115, 116]).2 : Int) = 0) := of_decide_eq_false hs15
          refine AtL.skipped rfl rfl rfl rfl rfl rfl ?_
          refine AtL.skipped rfl rfl rfl rfl rfl rfl ?_
          refine AtL.skipped rfl rfl rfl rfl rfl rfl ?_
          refine AtL.pickF (.inr ⟨_, _, _, rfl, rfl, rfl, rfl⟩) rfl rfl rfl ?_
          exact J _ (by exact ⟨(boolIs (by clear J; first | (simp [hs15]; done) | (simp_all; done) | grind)), rfl, trivial⟩)
      · skip
        refine AtL.pickF (.inl rfl) rfl rfl rfl ?_
        exact J _ (by exact ⟨(boolIs (by clear J; first | (simp [hs12]; done) | (simp_all; done) | grind)), trivial⟩)
  · skip
    refine AtL.assign (.inl rfl) rfl rfl ?_
    refine AtL.done ?_
    refine At.pick (H' := H) [] 1 rfl rfl ?_
    exact At.ret Tryz.func104 rfl rfl (⟨congrArg Value.bool (by rw [hostsF]; exact decide_eq_decide.2 (by show _ ↔ ((fieldF fs [104, 111, 115, 116]).2 = 1 ∨ ((fieldF fs [104, 111, 115, 116]).2 = 0 ∧ minor = 0)); omega)), rfl⟩)
end Go.Proofs.YtlkdmbpbjhjkfaaGreatDoor
namespace Go.Proofs.YtlkdmbpbjhjkfaaGreatDoor
open Go.RowKit (Below)
set_option linter.unusedVariables false
set_option linter.unusedSimpArgs false
theorem Sep.drewN {w0 : World} {base : Nat} {w : World} {H : List Seg} (S : Sep w0 base w H) (n : Nat) : Sep w0 base (w.drewN n) H := S.same rfl rfl rfl rfl
theorem Sep.kept {w0 : World} {base : Nat} {w w' : World} {H : List Seg} (S : Sep w0 base w H) (h : Below w.heap.size w w') : Sep w0 base w' H := by
  refine ⟨⟨h.os.trans S.below.os, h.tape.trans S.below.tape, h.output.trans S.below.output, Nat.le_trans S.below.size h.size, fun k hk => (h.block k (Nat.lt_of_lt_of_le hk S.base_le)).trans (S.below.block k hk)⟩, S.le, fun p hp => ⟨(S.mem p hp).1, (h.block p.1 (S.lt hp)).trans (S.mem p hp).2⟩, S.nodup⟩
section calls
variable {P : Program} {f : FuncId} {args : List Value} {w0 : World} {base : Nat} {H : List Seg}
theorem SCalls.of_draws {v : Value} (h : ∀ w, Sep w0 base w H → Calls P f args.toArray w fun e w' => e = .returned v ∧ ∃ n, w' = w.drewN n) : SCalls P f args w0 base H (fun u H' => u = v ∧ H' = H) :=
  fun w S => (h w S).mono fun e w' ⟨he, n, hw⟩ => ⟨v, H, he, ⟨rfl, rfl⟩, hw ▸ S.drewN n⟩
theorem SCalls.of_same {v : Value} (h : ∀ w, Sep w0 base w H → Calls P f args.toArray w fun e w' => e = .returned v ∧ w' = w) : SCalls P f args w0 base H (fun u H' => u = v ∧ H' = H) :=
  fun w S => (h w S).mono fun e w' ⟨he, hw⟩ => ⟨v, H, he, ⟨rfl, rfl⟩, hw ▸ S⟩
theorem SCalls.of_below {v : Value} (h : ∀ w, Sep w0 base w H → Calls P f args.toArray w fun e w' => e = .returned v ∧ Below w.heap.size w w') : SCalls P f args w0 base H (fun u H' => u = v ∧ H' = H) :=
  fun w S => (h w S).mono fun e w' ⟨he, hw⟩ => ⟨v, H, he, ⟨rfl, rfl⟩, S.kept hw⟩
theorem SCalls.of_alloc {v : Nat → Value} {o : Obj} (h : ∀ w, Sep w0 base w H → Calls P f args.toArray w fun e w' => e = .returned (v w.heap.size) ∧ ∃ n, w' = (w.alloc o).drewN n) : SCalls P f args w0 base H (fun u H' => ∃ b, u = v b ∧ H' = [(b, o)] :: H) :=
  fun w S => (h w S).mono fun e w' ⟨he, n, hw⟩ => ⟨_, _, he, ⟨w.heap.size, rfl, rfl⟩, hw ▸ (S.alloc o).drewN n⟩
theorem Sep.cellBelow {w : World} (S : Sep w0 base w H) {b o : Nat} {v : Value} (hb : b < base) (h : w0.cell? ⟨b, o, none⟩ = some v) : w.cell? ⟨b, o, none⟩ = some v := by
  have h2 := S.below.block b hb
  rw [← h]
  simp only [World.cell?, h2]
end calls
end Go.Proofs.YtlkdmbpbjhjkfaaGreatDoor
namespace Go.Proofs.YtlkdmbpbjhjkfaaGreatDoor
open Go.RowKit (Below)
set_option linter.unusedVariables false
set_option linter.unusedSimpArgs false
section
variable {X : Pt} {k : List Item} {E : Env} {ds : List Deferred} {H : List Seg} {ops : Array Oper} {os : List Oper}
  {d : Nat} {ty : TypeId} {pos : String} {after : Array Edge} {g : Option (Nat × Bool)}
theorem Do.rangeS {t : TypeId} {x : Operand} {l : List UInt8} (hu : X.P.underlying t = some .string) (hx : ev E x = some (str l)) : Does X E H (.range t x) (fun v H' => ∃ b, v = .pointer (some ⟨b, 0, none⟩) ∧ H' = [(b, .stringIter ⟨⟨l⟩⟩ 0)] :: H) :=
  Does.core rfl fun dst ty pos after g ρ w hρ S => ⟨.pointer (some ⟨w.heap.size, 0, none⟩), w.alloc (.stringIter ⟨⟨l⟩⟩ 0), _, by
    simp only [execOp, hρ _ _ hx, Instr.range, str, Sem.run_bind, run_underlying hu, Result.andThen_ok, Sem.run_pure, run_newObj_alloc], S.alloc _, _, rfl, rfl⟩
theorem AtL.rangeS {t : TypeId} {x : Operand} {l : List UInt8} (hu : X.P.underlying t = some .string) (hg : Wd X ops E g) (hd : Nat.blt d X.n = true) (hx : ev E x = some (str l)) (hk : ∀ b, AtL X ops os k ((d, .pointer (some ⟨b, 0, none⟩)) :: E) ds ([(b, .stringIter ⟨⟨l⟩⟩ 0)] :: H)) :
    AtL X ops (⟨some d, .range t x, ty, pos, after, g⟩ :: os) k E ds H := AtL.of (Do.rangeS hu hx) hg hd fun _ _ ⟨b, hv, hH⟩ => by subst hv; subst hH; exact hk b
theorem getObj_at {P : Program} {w : World} {b : Nat} {o : Obj} (h : w.heap[b]? = some o) (hc : isCellsO o = false) : (getObj b).run P w = .ok o w := by
  cases o <;> first | (cases hc; done) | simp [getObj, Sem.run, h]
theorem Do.nextS {x : Operand} {l : List UInt8} {b p i j c n : Nat} {s : Seg} {H' : List Seg} (hx : ev E x = some (.pointer (some ⟨b, 0, none⟩))) (hi : H[i]? = some s) (hj : s[j]? = some (b, .stringIter ⟨⟨l⟩⟩ p)) (hp : Nat.blt p l.length = true)
    (hc : Utf8.decode ⟨⟨l⟩⟩ p = (c, n)) (hH : H.set i (s.set j (b, .stringIter ⟨⟨l⟩⟩ (p + n))) = H') : Does X E H (.next x true) (Is (.tuple #[.bool true, int (p : Int), .int .i32 (c : Int)]) H') :=
  Does.core rfl fun dst ty pos after g ρ w hρ S => by
    have hb := (S.at_ hi hj).1
    have hp' : p < (ByteArray.mk ⟨l⟩).size := blt_lt hp
    refine ⟨_, { w with heap := w.heap.setIfInBounds b (.stringIter ⟨⟨l⟩⟩ (p + n)) }, H', ?_, hH ▸ S.setObj hi hj _, rfl, rfl⟩
    simp only [execOp, hρ _ _ hx, Instr.next, Sem.run_bind, getObj_at hb rfl, Result.andThen_ok, if_pos hp', hc]
    rw [setObj_run hb rfl]
    rfl
theorem AtL.nextS {x : Operand} {l : List UInt8} {b p c n : Nat} {s : Seg} {H' : List Seg} (i j : Nat) (hg : Wd X ops E g) (hd : Nat.blt d X.n = true) (hx : ev E x = some (.pointer (some ⟨b, 0, none⟩))) (hi : H[i]? = some s) (hj : s[j]? = some (b, .stringIter ⟨⟨l⟩⟩ p)) (hp : Nat.blt p l.length = true)
    (hc : Utf8.decode ⟨⟨l⟩⟩ p = (c, n)) (hH : H.set i (s.set j (b, .stringIter ⟨⟨l⟩⟩ (p + n))) = H') (hk : AtL X ops os k ((d, .tuple #[.bool true, int (p : Int), .int .i32 (c : Int)]) :: E) ds H') :
    AtL X ops (⟨some d, .next x true, ty, pos, after, g⟩ :: os) k E ds H := AtL.of (Do.nextS hx hi hj hp hc hH) hg hd fun _ _ ⟨hv, hH⟩ => by subst hv; subst hH; exact hk
theorem Do.nextOver {x : Operand} {l : List UInt8} {b p i j : Nat} {s : Seg} (hx : ev E x = some (.pointer (some ⟨b, 0, none⟩))) (hi : H[i]? = some s) (hj : s[j]? = some (b, .stringIter ⟨⟨l⟩⟩ p)) (hp : Nat.ble l.length p = true) :
    Does X E H (.next x true) (Is (.tuple #[.bool false]) H) :=
  Does.core rfl fun dst ty pos after g ρ w hρ S => by
    have hb := (S.at_ hi hj).1
    have hp' : ¬ p < (ByteArray.mk ⟨l⟩).size := by have := Nat.le_of_ble_eq_true hp; show ¬ p < l.length; omega
    refine ⟨_, w, H, ?_, S, rfl, rfl⟩
    simp only [execOp, hρ _ _ hx, Instr.next, Sem.run_bind, getObj_at hb rfl, Result.andThen_ok, if_neg hp', Sem.run_pure]
theorem AtL.nextOver {x : Operand} {l : List UInt8} {b p : Nat} {s : Seg} (i j : Nat) (hg : Wd X ops E g) (hd : Nat.blt d X.n = true) (hx : ev E x = some (.pointer (some ⟨b, 0, none⟩))) (hi : H[i]? = some s) (hj : s[j]? = some (b, .stringIter ⟨⟨l⟩⟩ p)) (hp : Nat.ble l.length p = true)
    (hk : AtL X ops os k ((d, .tuple #[.bool false]) :: E) ds H) : AtL X ops (⟨some d, .next x true, ty, pos, after, g⟩ :: os) k E ds H := AtL.ofIs (Do.nextOver hx hi hj hp) hg hd hk
def encL (r : Int) : List UInt8 := (Utf8.encode r).data.toList
theorem enc_no (r : Int) : encL r ≠ [13, 10] := by
  unfold encL Utf8.encode
  simp only []
  generalize (if Utf8.valid r then r.toNat else Utf8.runeError) = c
  split
  · intro h; simpa using congrArg List.length h
  · split
    · rename_i h1 h2
      intro h
      simp only [List.cons.injEq] at h
      have := congrArg UInt8.toNat h.1
      rw [UInt8.toNat_ofNat'] at this
      have h3 : (192 + c / 64) % 2 ^ 8 = 192 + c / 64 := Nat.mod_eq_of_lt (by omega)
      rw [h3] at this
      have h4 : (13 : UInt8).toNat = 13 := rfl
      omega
    · split <;> (intro h; simpa using congrArg List.length h)
theorem enc_long {r : Int} (h : 2048 ≤ r) : 3 ≤ (encL r).length ∧ (encL r).length ≤ 4 := by
  unfold encL Utf8.encode
  simp only []
  have hc : 2048 ≤ (if Utf8.valid r then r.toNat else Utf8.runeError) := by
    split
    · omega
    · decide
  revert hc
  generalize (if Utf8.valid r then r.toNat else Utf8.runeError) = c
  intro hc
  rw [if_neg (by omega), if_neg (by omega)]
  split <;> simp
theorem enc3 {r : Int} (h : 2048 ≤ r) (h2 : r ≤ 65535) : (encL r).length = 3 := by
  unfold encL Utf8.encode
  simp only []
  have hc : 2048 ≤ (if Utf8.valid r then r.toNat else Utf8.runeError) ∧ (if Utf8.valid r then r.toNat else Utf8.runeError) < 65536 := by
    split
    · omega
    · decide
  revert hc
  generalize (if Utf8.valid r then r.toNat else Utf8.runeError) = c
  intro hc
  rw [if_neg (by omega), if_neg (by omega), if_pos (by omega)]
  rfl
theorem Do.convRune {src dst : TypeId} {x : Operand} {kk : IntKind} {r : Int} (h1 : X.P.underlying src = some (.int kk)) (h2 : X.P.underlying dst = some .string) (hx : ev E x = some (.int kk r)) : Does X E H (.convert src dst x) (Is (str (encL r)) H) :=
  Does.pureOp rfl fun d ty pos after g ρ w hρ => by
    have e : Value.string (Utf8.encode r) = str (encL r) := rfl
    simp only [execOp, hρ _ _ hx, convert, Sem.run_bind, run_underlying h1, run_underlying h2, Result.andThen_ok]
    simp [Conv.intToString, e]
theorem AtL.convRune {src dst : TypeId} {x : Operand} {kk : IntKind} {r : Int} (h1 : X.P.underlying src = some (.int kk)) (h2 : X.P.underlying dst = some .string) (hg : Wd X ops E g) (hd : Nat.blt d X.n = true) (hx : ev E x = some (.int kk r))
    (hk : AtL X ops os k ((d, str (encL r)) :: E) ds H) : AtL X ops (⟨some d, .convert src dst x, ty, pos, after, g⟩ :: os) k E ds H := AtL.ofIs (Do.convRune h1 h2 hx) hg hd hk
theorem Do.callX {f : FuncId} {xs : Array Operand} {ts : Array TypeId} {args : List Value} {v : Value} (hx : evs E xs.toList = some args) (hr : ∀ w, Sep X.w0 X.base w H → (callFunc f args.toArray).run X.P w = .ok (.value v) w) : Does X E H (.call ⟨.value (.func f), xs, ts⟩) (Is v H) :=
  Does.core rfl fun dst ty pos after g ρ w hρ S => ⟨v, w, H, by
    have hf : ρ (.func f) = .func (.func f) #[] #[] := hρ _ _ rfl
    simp only [execOp, resolve, hf, Deferred.ofValue, evs_arr hρ hx, invoke, Sem.run_bind, Sem.run_pure, Result.andThen_ok]
    simpa using hr w S, S, rfl, rfl⟩
theorem AtL.callX {f : FuncId} {xs : Array Operand} {ts : Array TypeId} {args : List Value} {v : Value} (hr : ∀ w, Sep X.w0 X.base w H → (callFunc f args.toArray).run X.P w = .ok (.value v) w) (hg : Wd X ops E g) (hd : Nat.blt d X.n = true) (hx : evs E xs.toList = some args) 
    (hk : AtL X ops os k ((d, v) :: E) ds H) : AtL X ops (⟨some d, .call ⟨.value (.func f), xs, ts⟩, ty, pos, after, g⟩ :: os) k E ds H := AtL.ofIs (Do.callX hx hr) hg hd hk
theorem AtL.convSl1 {t e : TypeId} {x : Operand} {b n : Nat} {cs : Array Value} {l : List UInt8} (i : Nat) (ht : X.P.underlying t = some (.slice e)) (he : X.P.underlying e = some (.int .u8)) (hi : H[i]? = some [(b, .cells cs e (0, 0))]) (hcs : cs = (tyB.cells l).toArray) (hn : n = l.length) (hle : l.length ≤ 9223372036854775807)
    (hg : Wd X ops E g) (hd : Nat.blt d X.n = true) (hx : ev E x = some (.slice (some ⟨b, 0, none⟩) n n)) 
    (hk : ∀ s, Own tyB e (some ⟨b, 0, none⟩) n l s → AtL X ops os k ((d, .slice (some ⟨b, 0, none⟩) n n) :: E) ds (H.set i s)) : AtL X ops (⟨some d, .convert t t x, ty, pos, after, g⟩ :: os) k E ds H := by
  refine AtL.of (R := fun v H' => v = .slice (some ⟨b, 0, none⟩) n n ∧ H' = H.set i [(b, .cells cs e (cs.size, cs.size + 1))]) (Does.core rfl fun dst ty pos after g ρ w hρ S => ?_) hg hd ?_
  · have hb := (S.at_ hi (j := 0) rfl).1
    have hw := S.write hi (j := 0) rfl (.cells cs e (cs.size, cs.size + 1)) (w' := w.freeze ⟨b, cs.size, none⟩ 1) rfl rfl rfl (by simp [World.freeze]) (by simp only [World.freeze]; rw [if_neg (by omega), Array.getElem?_modify, hb]; simp) (fun k hk => by
      simp only [World.freeze]
      rw [if_neg (by omega)]
      simp [Array.getElem?_modify, Ne.symm hk])
    refine ⟨_, w.freeze ⟨b, cs.size, none⟩ 1, _, ?_, hw, rfl, rfl⟩
    have hsh : w.shape? b = some (e, cs.size) := by simp only [World.shape?, hb]
    simp [execOp, hρ _ _ hx, convert, run_underlying ht, run_underlying he, markStringish, hsh]
  · rintro v H' ⟨rfl, rfl⟩
    refine hk _ ⟨[], by simp [hn], .inr ⟨b, [], [], (cs.size, cs.size + 1), by simp, by rw [hcs]; simp, ?_, by simpa using hle⟩⟩
    intro j hj
    rw [Bool.and_eq_false_iff, decide_eq_false_iff_not]
    left
    rw [hcs]
    simp [Ty.cells_len] at hj ⊢
    omega
theorem Cell.below {w0 : World} {base b o : Nat} {v : Value} (hb : b < base) (h : w0.cell? ⟨b, o, none⟩ = some v) : Cell w0 base H ⟨b, o, none⟩ v := fun w S => S.cellBelow hb h
theorem Cell.tab {w0 : World} {base b j : Nat} {v : Value} (hb : b < base) (h : w0.cell? ⟨b, j, none⟩ = some v) : Cell w0 base H (eaddr (some ⟨b, 0, none⟩) (j * 1)) v := by
  have e : eaddr (some ⟨b, 0, none⟩) (j * 1) = ⟨b, j, none⟩ := by simp [eaddr, addr_add]
  rw [e]
  exact Cell.below hb h
theorem w32i {z : Int} (h1 : -2147483648 ≤ z) (h2 : z ≤ 2147483647) : IntKind.i32.wrap z = z := by
  simp only [IntKind.wrap, IntKind.bits, IntKind.signed]
  simp
  omega
theorem and8 {a b : Int} (k : Nat) (hb : b = 2 ^ k - 1) (h1 : 0 ≤ a) (h2 : a < 256) : IntKind.u8.wrap ((BitVec.ofInt IntKind.u8.bits a &&& BitVec.ofInt IntKind.u8.bits b).toNat : Int) = a % 2 ^ k := by
  subst hb
  obtain ⟨n, rfl⟩ := Int.eq_ofNat_of_zero_le h1
  have h3 : (2 : Int) ^ k - 1 = ((2 ^ k - 1 : Nat) : Int) := by
    have : 0 < (2 : Nat) ^ k := Nat.pow_pos (by omega)
    rw [Int.natCast_sub (by omega)]
    push_cast
    rfl
  rw [h3]
  show IntKind.u8.wrap ((BitVec.ofInt 8 _ &&& BitVec.ofInt 8 _).toNat : Int) = _
  rw [BitVec.toNat_and, BitVec.toNat_ofInt, BitVec.toNat_ofInt]
  have h4 : (((n : Int) % (2 ^ 8 : Nat)).toNat) = n := by
    rw [Int.emod_eq_of_lt (by omega) (by omega)]; omega
  have h5 : ((((2 ^ k - 1 : Nat) : Int) % (2 ^ 8 : Nat)).toNat) = (2 ^ k - 1) % 2 ^ 8 := by omega
  rw [h4, h5]
  have h6 : n &&& (2 ^ k - 1) % 2 ^ 8 = n % 2 ^ k := by
    rw [← Nat.and_two_pow_sub_one_eq_mod n k]
    apply Nat.eq_of_testBit_eq
    intro i
    simp only [Nat.testBit_and, Nat.testBit_mod_two_pow, Nat.testBit_two_pow_sub_one]
    by_cases hi : i < 8
    · simp [hi]
    · have : n.testBit i = false := Nat.testBit_lt_two_pow (Nat.lt_of_lt_of_le (show n < 2 ^ 8 by omega) (Nat.pow_le_pow_right (by omega) (by omega)))
      simp [this]
  rw [h6]
  have h7 : n % 2 ^ k ≤ n := Nat.mod_le _ _
  rw [w8 (by omega) (by omega)]
  push_cast
  rfl
theorem or32 {a b : Int} (k : Nat) (hk : k ≤ 31) (h1 : 0 ≤ a) (h2 : a < 2 ^ k) (h3 : 0 ≤ b) (h4 : b < 2 ^ k) : ∃ z : Int, IntKind.i32.wrap ((BitVec.ofInt IntKind.i32.bits a ||| BitVec.ofInt IntKind.i32.bits b).toNat : Int) = z ∧ a ≤ z ∧ b ≤ z ∧ z < 2 ^ k := by
  have hk2 : (2 : Nat) ^ k ≤ 2 ^ 31 := Nat.pow_le_pow_right (by omega) hk
  obtain ⟨n, rfl⟩ := Int.eq_ofNat_of_zero_le h1
  obtain ⟨m, rfl⟩ := Int.eq_ofNat_of_zero_le h3
  have e : (BitVec.ofInt IntKind.i32.bits (n : Int) ||| BitVec.ofInt IntKind.i32.bits (m : Int)).toNat = n ||| m := by
    show (BitVec.ofInt 32 _ ||| BitVec.ofInt 32 _).toNat = _
    have h2' : n < 2 ^ k := by exact_mod_cast h2
    have h4' : m < 2 ^ k := by exact_mod_cast h4
    rw [BitVec.toNat_or, BitVec.toNat_ofInt, BitVec.toNat_ofInt]
    congr 1 <;> omega
  rw [e]
  have h5' : n ||| m < 2 ^ k := Nat.or_lt_two_pow (by exact_mod_cast h2) (by exact_mod_cast h4)
  have h5 : n ||| m < 2 ^ 31 := by omega
  have h6 : n ≤ n ||| m := Nat.left_le_or
  have h7 : m ≤ n ||| m := Nat.right_le_or
  exact ⟨((n ||| m : Nat) : Int), w32i (by omega) (by omega), by omega, by omega, by exact_mod_cast h5'⟩
theorem shl_eq32 (a b : Int) (c : Nat) (hb : b = (c : Int)) (hc : c ≤ 31) (d : Int) (hd : (2 : Int) ^ c = d) (h1 : -2147483648 ≤ a * d) (h2 : a * d ≤ 2147483647) : IntKind.i32.wrap (a * 2 ^ (min b.toNat IntKind.i32.bits)) = a * d := by
  subst hb
  rw [show min ((c : Int).toNat) IntKind.i32.bits = c from by simp [IntKind.bits]; omega, hd]
  exact w32i h1 h2
theorem Do.bandnot {kk : IntKind} {tx tz : TypeId} {x y : Operand} {a b z : Int} (hx : ev E x = some (.int kk a)) (hy : ev E y = some (.int kk b)) (hz : kk.wrap ((BitVec.ofInt kk.bits a &&& ~~~ BitVec.ofInt kk.bits b).toNat : Int) = z) : Does X E H (.binOp .andNot tx x y tz) (Is (.int kk z) H) :=
  Do.bin hx hy (fun w => by rw [← hz]; simp [eqGuard, binOp, Op.intBits])
theorem AtL.bandnot {kk : IntKind} {tx tz : TypeId} {x y : Operand} {a b z : Int} (hg : Wd X ops E g) (hd : Nat.blt d X.n = true) (hx : ev E x = some (.int kk a)) (hy : ev E y = some (.int kk b)) (hz : kk.wrap ((BitVec.ofInt kk.bits a &&& ~~~ BitVec.ofInt kk.bits b).toNat : Int) = z) (hk : AtL X ops os k ((d, .int kk z) :: E) ds H) :
    AtL X ops (⟨some d, .binOp .andNot tx x y tz, ty, pos, after, g⟩ :: os) k E ds H :=
  AtL.ofIs (Do.bandnot hx hy hz) hg hd hk
theorem andnot_ones (a : Int) : IntKind.i32.wrap ((BitVec.ofInt IntKind.i32.bits a &&& ~~~ BitVec.ofInt IntKind.i32.bits (-1)).toNat : Int) = 0 := by
  have : (~~~ BitVec.ofInt IntKind.i32.bits (-1)) = 0#IntKind.i32.bits := by decide
  rw [this]
  simp
  rfl
end
end Go.Proofs.YtlkdmbpbjhjkfaaGreatDoor
namespace Go.Proofs.YtlkdmbpbjhjkfaaGreatDoor
set_option linter.unusedVariables false
set_option linter.unusedSimpArgs false
set_option maxRecDepth 100000
structure Tabs (w0 : World) (base : Nat) : Prop where
  lt : 4 < base
  lt2 : 5 < base
  first : ∀ c, c < 256 → w0.cell? ⟨4, c, none⟩ = some (.int .u8 (Lib.firstT c))
  lt0 : 0 < base
  max : ∃ m : Int, w0.cell? ⟨0, 0, none⟩ = some (int m)
  acc : ∀ i, i < 16 → w0.cell? ⟨5, 2 * i, none⟩ = some (.int .u8 (Lib.accLo i)) ∧ w0.cell? ⟨5, 2 * i + 1, none⟩ = some (.int .u8 (Lib.accHi i))
theorem Tabs.two {w0 : World} {base : Nat} {H : List Seg} (T : Tabs w0 base) (i : Nat) (hi : i < 16) {lo hi' : Int} (h1 : (Lib.accLo i : Int) = lo) (h2 : (Lib.accHi i : Int) = hi') : ∀ j v, ([.int .u8 lo, .int .u8 hi'] : List Value)[j]? = some v → Cell w0 base H ((eaddr (some ⟨5, 0, none⟩) (i * 2)).add j) v := by
  intro j v hj
  obtain ⟨a1, a2⟩ := T.acc i hi
  have e : eaddr (some ⟨5, 0, none⟩) (i * 2) = ⟨5, 2 * i, none⟩ := by simp [eaddr, addr_add]; omega
  rw [e, addr_add]
  match j, hj with
  | 0, hj => cases hj; rw [← h1]; exact Cell.below T.lt2 a1
  | 1, hj => cases hj; rw [← h2]; exact Cell.below T.lt2 a2
theorem Tabs.one {w0 : World} {base : Nat} {H : List Seg} (T : Tabs w0 base) (u : UInt8) {x : Int} (h : (Lib.firstT u.toNat : Int) = x) : Cell w0 base H (eaddr (some ⟨4, 0, none⟩) (u.toNat * 1)) (.int .u8 x) := by
  rw [← h]
  exact Cell.tab T.lt (T.first _ u.toNat_lt)
def decOk (l : List UInt8) (r : Int) (n : Nat) : Prop := 1 ≤ n ∧ n ≤ l.length ∧ (∀ i, 1 ≤ i → i < n → 128 ≤ (l.getD i 0).toNat) ∧ (r = 65533 ∨ n = 2 ∨ (n = 3 ∧ 2048 ≤ r ∧ r ≤ 65535) ∨ (n = 4 ∧ 2048 ≤ r ∧ r ≤ 2147483647))
end Go.Proofs.YtlkdmbpbjhjkfaaGreatDoor
namespace Go.Proofs
open Go.Shelf
def Tryz.lays160_ren : Go.Shelf.Ren := ⟨fun | 160 => 102 | 232 => 144 | 231 => 143 | 227 => 145 | 234 => 147 | 233 => 146 | 236 => 149 | 235 => 148 | 228 => 183 | 271 => 185 | 151 => 184 | 197 => 167 | 120 => 214 | 152 => 213 | 260 => 195 | 137 => 226 | 119 => 223 | 224 => 114 | 225 => 164 | 217 => 163 | 266 => 193 | n => n, fun | 9 => 9 | 4 => 4 | 3 => 3 | 5 => 5 | 117 => 183 | 116 => 182 | 0 => 0 | 124 => 186 | 21 => 21 | 105 => 201 | 46 => 156 | 119 => 166 | 139 => 253 | 138 => 252 | n => n, fun | 3 => 4 | 4 => 5 | n => n⟩
theorem Tryz.lays160 : Go.Proofs.Lays.n160 Tryz.prog Tryz.lays160_ren := {
  mixed := by kernel_rfl
  f119 := Tryz.func223.trans (congrArg some (by kernel_rfl))
  f120 := Tryz.func214.trans (congrArg some (by kernel_rfl))
  f137 := Tryz.func226.trans (congrArg some (by kernel_rfl))
  f151 := Tryz.func184.trans (congrArg some (by kernel_rfl))
  f152 := Tryz.func213.trans (congrArg some (by kernel_rfl))
  f160 := Tryz.func102.trans (congrArg some (by kernel_rfl))
  f197 := Tryz.func167.trans (congrArg some (by kernel_rfl))
  f217 := Tryz.func163.trans (congrArg some (by kernel_rfl))
  f224 := Tryz.func114.trans (congrArg some (by kernel_rfl))
  f225 := Tryz.func164.trans (congrArg some (by kernel_rfl))
  f227 := Tryz.func145.trans (congrArg some (by kernel_rfl))
  f228 := Tryz.func183.trans (congrArg some (by kernel_rfl))
  f231 := Tryz.func143.trans (congrArg some (by kernel_rfl))
  f232 := Tryz.func144.trans (congrArg some (by kernel_rfl))
  f233 := Tryz.func146.trans (congrArg some (by kernel_rfl))
  f234 := Tryz.func147.trans (congrArg some (by kernel_rfl))
  f235 := Tryz.func148.trans (congrArg some (by kernel_rfl))
  f236 := Tryz.func149.trans (congrArg some (by kernel_rfl))
  f260 := Tryz.func195.trans (congrArg some (by kernel_rfl))
  f266 := Tryz.func193.trans (congrArg some (by kernel_rfl))
  f271 := Tryz.func185.trans (congrArg some (by kernel_rfl))
  t0 := Tryz.underlying0
  a0 := Tryz.isAgg0
  z0 := Tryz.sizeOf0
  v0 := Tryz.zeroValue0
  t3 := Tryz.underlying3
  a3 := Tryz.isAgg3
  z3 := Tryz.sizeOf3
  v3 := Tryz.zeroValue3
  t4 := Tryz.underlying4
  a4 := Tryz.isAgg4
  z4 := Tryz.sizeOf4
  v4 := Tryz.zeroValue4
  t5 := Tryz.underlying5
  a5 := Tryz.isAgg5
  z5 := Tryz.sizeOf5
  v5 := Tryz.zeroValue5
  t9 := Tryz.underlying9
  a9 := Tryz.isAgg9
  z9 := Tryz.sizeOf9
  v9 := Tryz.zeroValue9
  t21 := Tryz.underlying21
  a21 := Tryz.isAgg21
  z21 := Tryz.sizeOf21
  v21 := Tryz.zeroValue21
  t46 := Tryz.underlying156
  a46 := Tryz.isAgg156
  z46 := Tryz.sizeOf156
  v46 := Tryz.zeroValue156
  t105 := Tryz.underlying201
  a105 := Tryz.isAgg201
  z105 := Tryz.sizeOf201
  v105 := Tryz.zeroValue201
  t116 := Tryz.underlying182
  a116 := Tryz.isAgg182
  z116 := Tryz.sizeOf182
  t117 := Tryz.underlying183
  a117 := Tryz.isAgg183
  z117 := Tryz.sizeOf183
  v117 := Tryz.zeroValue183
  t119 := Tryz.underlying166
  a119 := Tryz.isAgg166
  z119 := Tryz.sizeOf166
  t124 := Tryz.underlying186
  a124 := Tryz.isAgg186
  z124 := Tryz.sizeOf186
  v124 := Tryz.zeroValue186
  t138 := Tryz.underlying252
  a138 := Tryz.isAgg252
  z138 := Tryz.sizeOf252
  v138 := Tryz.zeroValue252
  t139 := Tryz.underlying253
  a139 := Tryz.isAgg253
  z139 := Tryz.sizeOf253
  v139 := Tryz.zeroValue253
  g3 := by kernel_rfl
  g4 := by kernel_rfl }
open Go.RowKit in
open Go.RowKit in
open Go.RowKit Go.Sort Go.Lib in
open Go.RowKit in
def Tryz.lays145_ren : Go.Shelf.Ren := ⟨fun | 145 => 53 | 220 => 88 | 219 => 128 | 217 => 163 | 225 => 164 | 224 => 114 | 267 => 165 | 266 => 193 | 314 => 194 | n => n, fun | 9 => 9 | 4 => 4 | 59 => 96 | 3 => 3 | 5 => 5 | 46 => 156 | 146 => 197 | 51 => 196 | n => n, fun | 1 => 0 | n => n⟩
theorem Tryz.lays145 : Go.Proofs.Lays.n145 Tryz.prog Tryz.lays145_ren := {
  mixed := by kernel_rfl
  f145 := Tryz.func53.trans (congrArg some (by kernel_rfl))
  f217 := Tryz.func163.trans (congrArg some (by kernel_rfl))
  f219 := Tryz.func128.trans (congrArg some (by kernel_rfl))
  f220 := Tryz.func88.trans (congrArg some (by kernel_rfl))
  f224 := Tryz.func114.trans (congrArg some (by kernel_rfl))
  f225 := Tryz.func164.trans (congrArg some (by kernel_rfl))
  f266 := Tryz.func193.trans (congrArg some (by kernel_rfl))
  f267 := Tryz.func165.trans (congrArg some (by kernel_rfl))
  f314 := Tryz.func194.trans (congrArg some (by kernel_rfl))
  t3 := Tryz.underlying3
  a3 := Tryz.isAgg3
  z3 := Tryz.sizeOf3
  v3 := Tryz.zeroValue3
  t4 := Tryz.underlying4
  a4 := Tryz.isAgg4
  z4 := Tryz.sizeOf4
  v4 := Tryz.zeroValue4
  t5 := Tryz.underlying5
  a5 := Tryz.isAgg5
  z5 := Tryz.sizeOf5
  v5 := Tryz.zeroValue5
  t9 := Tryz.underlying9
  a9 := Tryz.isAgg9
  z9 := Tryz.sizeOf9
  v9 := Tryz.zeroValue9
  t46 := Tryz.underlying156
  a46 := Tryz.isAgg156
  z46 := Tryz.sizeOf156
  v46 := Tryz.zeroValue156
  t51 := Tryz.underlying196
  a51 := Tryz.isAgg196
  z51 := Tryz.sizeOf196
  v51 := Tryz.zeroValue196
  t59 := Tryz.underlying96
  a59 := Tryz.isAgg96
  z59 := Tryz.sizeOf96
  v59 := Tryz.zeroValue96
  t146 := Tryz.underlying197
  a146 := Tryz.isAgg197
  z146 := Tryz.sizeOf197
  v146 := Tryz.zeroValue197
  g1 := by kernel_rfl }
open Go.RowKit Go.Lib in
theorem Tryz.strings_Cut (s sep : ByteArray) (m : Int) (w : World) (hs : s.size < 4294967281) (hm : w.cell? ⟨0, 0, none⟩ = some (.int .i64 m)) :
    Calls Tryz.prog 53 #[.string s, .string sep] w fun e w' => e = .returned (.tuple #[.string ⟨(Lib.cut s.data.toList sep.data.toList).1.toArray⟩, .string ⟨(Lib.cut s.data.toList sep.data.toList).2.1.toArray⟩, .bool (Lib.cut s.data.toList sep.data.toList).2.2]) ∧ ∃ n, w' = w.drewN n := Any.strings_Cut Tryz.lays145 s sep m w hs hm
def Tryz.lays146_ren : Go.Shelf.Ren := ⟨fun | 146 => 92 | 221 => 134 | 268 => 172 | 138 => 173 | 143 => 174 | 195 => 198 | 197 => 167 | 218 => 199 | 219 => 128 | 260 => 195 | 217 => 163 | 225 => 164 | 224 => 114 | 267 => 165 | 266 => 193 | 314 => 194 | n => n, fun | 9 => 9 | 31 => 109 | 3 => 3 | 4 => 4 | 0 => 0 | 105 => 201 | 21 => 21 | 5 => 5 | 46 => 156 | 119 => 166 | 139 => 253 | 138 => 252 | 146 => 197 | 51 => 196 | n => n, fun | 1 => 0 | 3 => 4 | 4 => 5 | n => n⟩
theorem Tryz.lays146 : Go.Proofs.Lays.n146 Tryz.prog Tryz.lays146_ren := {
  mixed := by kernel_rfl
  f138 := Tryz.func173.trans (congrArg some (by kernel_rfl))
  f143 := Tryz.func174.trans (congrArg some (by kernel_rfl))
  f146 := Tryz.func92.trans (congrArg some (by kernel_rfl))
  f195 := Tryz.func198.trans (congrArg some (by kernel_rfl))
  f197 := Tryz.func167.trans (congrArg some (by kernel_rfl))
  f217 := Tryz.func163.trans (congrArg some (by kernel_rfl))
  f218 := Tryz.func199.trans (congrArg some (by kernel_rfl))
  f219 := Tryz.func128.trans (congrArg some (by kernel_rfl))
  f221 := Tryz.func134.trans (congrArg some (by kernel_rfl))
  f224 := Tryz.func114.trans (congrArg some (by kernel_rfl))
  f225 := Tryz.func164.trans (congrArg some (by kernel_rfl))
  f260 := Tryz.func195.trans (congrArg some (by kernel_rfl))
  f266 := Tryz.func193.trans (congrArg some (by kernel_rfl))
  f267 := Tryz.func165.trans (congrArg some (by kernel_rfl))
  f268 := Tryz.func172.trans (congrArg some (by kernel_rfl))
  f314 := Tryz.func194.trans (congrArg some (by kernel_rfl))
  t0 := Tryz.underlying0
  a0 := Tryz.isAgg0
  z0 := Tryz.sizeOf0
  v0 := Tryz.zeroValue0
  t3 := Tryz.underlying3
  a3 := Tryz.isAgg3
  z3 := Tryz.sizeOf3
  v3 := Tryz.zeroValue3
  t4 := Tryz.underlying4
  a4 := Tryz.isAgg4
  z4 := Tryz.sizeOf4
  v4 := Tryz.zeroValue4
  t5 := Tryz.underlying5
  a5 := Tryz.isAgg5
  z5 := Tryz.sizeOf5
  v5 := Tryz.zeroValue5
  t9 := Tryz.underlying9
  a9 := Tryz.isAgg9
  z9 := Tryz.sizeOf9
  v9 := Tryz.zeroValue9
  t21 := Tryz.underlying21
  a21 := Tryz.isAgg21
  z21 := Tryz.sizeOf21
  v21 := Tryz.zeroValue21
  t31 := Tryz.underlying109
  a31 := Tryz.isAgg109
  z31 := Tryz.sizeOf109
  v31 := Tryz.zeroValue109
  t46 := Tryz.underlying156
  a46 := Tryz.isAgg156
  z46 := Tryz.sizeOf156
  v46 := Tryz.zeroValue156
  t51 := Tryz.underlying196
  a51 := Tryz.isAgg196
  z51 := Tryz.sizeOf196
  v51 := Tryz.zeroValue196
  t105 := Tryz.underlying201
  a105 := Tryz.isAgg201
  z105 := Tryz.sizeOf201
  v105 := Tryz.zeroValue201
  t119 := Tryz.underlying166
  a119 := Tryz.isAgg166
  z119 := Tryz.sizeOf166
  t138 := Tryz.underlying252
  a138 := Tryz.isAgg252
  z138 := Tryz.sizeOf252
  v138 := Tryz.zeroValue252
  t139 := Tryz.underlying253
  a139 := Tryz.isAgg253
  z139 := Tryz.sizeOf253
  v139 := Tryz.zeroValue253
  t146 := Tryz.underlying197
  a146 := Tryz.isAgg197
  z146 := Tryz.sizeOf197
  v146 := Tryz.zeroValue197
  g1 := by kernel_rfl
  g3 := by kernel_rfl
  g4 := by kernel_rfl }
open Go.RowKit Go.Lib in
theorem Tryz.strings_Split (s sep : ByteArray) (m : Int) (w : World) (hs : s.size < 4294967281) (hm : w.cell? ⟨0, 0, none⟩ = some (.int .i64 m)) (h1 : 1 ≤ sep.size) :
    Calls Tryz.prog 92 #[.string s, .string sep] w fun e w' =>
      e = .returned (.slice (some ⟨w.heap.size, 0, none⟩) (Lib.countB s sep + 1) (Lib.countB s sep + 1)) ∧ w' = w.alloc (.cells ((Lib.splitB sep 0 (Lib.countB s sep) s).map Value.string).toArray 9) := Any.strings_Split Tryz.lays146 (by kernel_rfl) s sep m w hs hm h1
open Go.RowKit Go.Lib in
open Go.RowKit Go.Lib in
def Tryz.lays185_ren : Go.Shelf.Ren := ⟨fun | 185 => 74 | 187 => 112 | 115 => 96 | 253 => 113 | 224 => 114 | 254 => 115 | 255 => 158 | 291 => 159 | n => n, fun | 37 => 22 | 3 => 3 | 4 => 4 | 0 => 0 | 5 => 5 | 46 => 156 | 9 => 9 | 146 => 197 | 51 => 196 | n => n, fun | 1 => 0 | n => n⟩
theorem Tryz.lays185 : Go.Proofs.Lays.n185 Tryz.prog Tryz.lays185_ren := {
  mixed := by kernel_rfl
  f115 := Tryz.func96.trans (congrArg some (by kernel_rfl))
  f185 := Tryz.func74.trans (congrArg some (by kernel_rfl))
  f187 := Tryz.func112.trans (congrArg some (by kernel_rfl))
  f224 := Tryz.func114.trans (congrArg some (by kernel_rfl))
  f253 := Tryz.func113.trans (congrArg some (by kernel_rfl))
  f254 := Tryz.func115.trans (congrArg some (by kernel_rfl))
  f255 := Tryz.func158.trans (congrArg some (by kernel_rfl))
  f291 := Tryz.func159.trans (congrArg some (by kernel_rfl))
  t0 := Tryz.underlying0
  a0 := Tryz.isAgg0
  z0 := Tryz.sizeOf0
  v0 := Tryz.zeroValue0
  t3 := Tryz.underlying3
  a3 := Tryz.isAgg3
  z3 := Tryz.sizeOf3
  v3 := Tryz.zeroValue3
  t4 := Tryz.underlying4
  a4 := Tryz.isAgg4
  z4 := Tryz.sizeOf4
  v4 := Tryz.zeroValue4
  t5 := Tryz.underlying5
  a5 := Tryz.isAgg5
  z5 := Tryz.sizeOf5
  v5 := Tryz.zeroValue5
  t9 := Tryz.underlying9
  a9 := Tryz.isAgg9
  z9 := Tryz.sizeOf9
  v9 := Tryz.zeroValue9
  t37 := Tryz.underlying22
  a37 := Tryz.isAgg22
  z37 := Tryz.sizeOf22
  v37 := Tryz.zeroValue22
  t46 := Tryz.underlying156
  a46 := Tryz.isAgg156
  z46 := Tryz.sizeOf156
  v46 := Tryz.zeroValue156
  t51 := Tryz.underlying196
  a51 := Tryz.isAgg196
  z51 := Tryz.sizeOf196
  v51 := Tryz.zeroValue196
  t146 := Tryz.underlying197
  a146 := Tryz.isAgg197
  z146 := Tryz.sizeOf197
  v146 := Tryz.zeroValue197
  g1 := by kernel_rfl }
open Go.Proofs Go.RowKit Go.Lib in
theorem Tryz.bytes_Index_at (a1 a2 : Addr) (n c1 k c2 : Nat) (xs ys : List Int) (m : Int) (w : World) (hx : xs.length = n) (hy : ys.length = k) (hr1 : ∀ x ∈ xs, 0 ≤ x ∧ x < 256) (hr2 : ∀ y ∈ ys, 0 ≤ y ∧ y < 256) (hc1 : ∀ i, i < n → w.cell? (a1.add i) = some (.int .u8 (xs.getD i 0))) (hc2 : ∀ i, i < k → w.cell? (a2.add i) = some (.int .u8 (ys.getD i 0))) (hcap : n ≤ c1) (hs : n < 4294967281) (hk : k ≤ 9223372036854775807) (hm : w.cell? ⟨0, 0, none⟩ = some (.int .i64 m)) :
    Calls Tryz.prog 74 #[.slice (some a1) n c1, .slice (some a2) k c2] w fun e w' => e = .returned (.int .i64 (Lib.index (Lib.bytesOf xs) (Lib.bytesOf ys))) ∧ ∃ q, w' = w.drewN q := Any.bytes_Index_at Tryz.lays185 a1 a2 n c1 k c2 xs ys m w hx hy hr1 hr2 hc1 hc2 hcap hs hk hm
open Go.Proofs Go.RowKit Go.Lib in
theorem Tryz.bytes_Index_nil (p2 : Option Addr) (k c2 : Nat) (w : World) (hk : k ≤ 9223372036854775807) (h1 : k = 1 → ∃ b2 o2 cv, p2 = some ⟨b2, o2, none⟩ ∧ w.cell? ⟨b2, o2, none⟩ = some (.int .u8 cv)) :
    Calls Tryz.prog 74 #[.slice none 0 0, .slice p2 k c2] w fun e w' => e = .returned (.int .i64 (if k = 0 then 0 else -1)) ∧ w' = w := Any.bytes_Index_nil Tryz.lays185 p2 k c2 w hk h1
end Go.Proofs
namespace Go.Proofs.YtlkdmbpbjhjkfaaGreatDoor
set_option linter.unusedVariables false
set_option linter.unusedSimpArgs false
set_option maxRecDepth 100000
def nums (l : List UInt8) : List Int := l.map fun u => (u.toNat : Int)
theorem nums_bytes (l : List UInt8) : Lib.bytesOf (nums l) = l := by
  unfold Lib.bytesOf nums
  rw [List.map_map]
  conv => rhs; rw [← List.map_id l]
  apply List.map_congr_left
  intro x _
  simp
theorem nums_rng (l : List UInt8) : ∀ x ∈ nums l, 0 ≤ x ∧ x < 256 := by
  intro x hx
  obtain ⟨u, _, rfl⟩ := List.mem_map.1 hx
  have := u.toNat_lt
  omega
theorem nums_get (l : List UInt8) (i : Nat) (h : i < l.length) : (nums l).getD i 0 = ((l.getD i 0).toNat : Int) := by
  simp [nums, List.getD, h]
theorem Rd.byte {w0 : World} {base : Nat} {H : List Seg} {A : Addr} {C : Nat} {l : List UInt8} (h : Rd tyB w0 base H (some A) C l) {w : World} (S : Sep w0 base w H) (i : Nat) (hi : i < l.length) : w.cell? (A.add i) = some (.int .u8 ((nums l).getD i 0)) := by
  obtain ⟨b, off, hA, hc⟩ := h.cells (by rintro rfl; simp at hi)
  cases hA
  rw [addr_add, nums_get l i hi]
  refine hc w S i _ ?_
  rw [tyB_cells]
  simp [hi, byt, List.getD]
theorem index_ok {w0 : World} {base : Nat} {H : List Seg} {A A2 : Option Addr} {C C2 : Nat} {l l2 : List UInt8} (h : Rd tyB w0 base H A C l) (h2 : Rd tyB w0 base H A2 C2 l2) (hl : l.length < 4294967281) (h3 : 2 ≤ l2.length) (T : Tabs w0 base) :
    SCalls Tryz.prog 74 [.slice A l.length C, .slice A2 l2.length C2] w0 base H (fun v H' => v = int (Lib.index l l2) ∧ H' = H) := by
  obtain ⟨m, hm⟩ := T.max
  have hc2 := h2.cap
  have hl2 := h2.le
  cases A with
  | none =>
    have hC := h.nil rfl
    have hle := h.le
    obtain rfl : l = [] := List.eq_nil_of_length_eq_zero (by omega)
    subst hC
    refine SCalls.of_same fun w S => ?_
    have := Tryz.bytes_Index_nil A2 l2.length C2 w (by omega) (by omega)
    rw [if_neg (by omega)] at this
    have e : Lib.index [] l2 = -1 := by
      cases l2 with
      | nil => simp at h3
      | cons c l2 => rfl
    rw [e]
    exact this
  | some a =>
    cases A2 with
    | none => have := h2.nil rfl; omega
    | some a2 =>
      refine SCalls.of_draws fun w S => ?_
      have := Tryz.bytes_Index_at a a2 l.length C l2.length C2 (nums l) (nums l2) m w (by simp [nums]) (by simp [nums]) (nums_rng _) (nums_rng _) (fun i hi => h.byte S i hi) (fun i hi => h2.byte S i hi) h.le hl (by omega) (S.cellBelow T.lt0 hm)
      rw [nums_bytes, nums_bytes] at this
      exact this
theorem cut_c (c : UInt8) (x : List UInt8) : cutC c x = if (Lib.cut x [c]).2.2 = true then some ((Lib.cut x [c]).1, (Lib.cut x [c]).2.1) else none := by
  induction x with
  | nil => rfl
  | cons a x ih =>
    have hg := Lib.index_ge x [c]
    unfold cutC
    by_cases h : a = c
    · subst h
      rw [if_pos rfl]
      have e : Lib.index (a :: x) [a] = 0 := by unfold Lib.index; simp [List.isPrefixOf]
      simp [Lib.cut, e]
    · rw [if_neg h, ih]
      have hp : List.isPrefixOf [c] (a :: x) = false := by
        simp only [List.isPrefixOf, Bool.and_true]
        simpa using fun h1 : c = a => h h1.symm
      have e : Lib.index (a :: x) [c] = if Lib.index x [c] = -1 then -1 else Lib.index x [c] + 1 := by
        rw [Lib.index, hp]
        by_cases h3 : Lib.index x [c] = -1 <;> simp [h3]
      unfold Lib.cut
      rw [e]
      by_cases h3 : Lib.index x [c] = -1
      · simp [h3]
      · have h4 : 0 ≤ Lib.index x [c] := by omega
        have h5 : 0 ≤ Lib.index x [c] + 1 := by omega
        have h6 : (Lib.index x [c] + 1).toNat = (Lib.index x [c]).toNat + 1 := by omega
        simp [h3, h4, h5, h6, Nat.add_right_comm]
theorem cut_le (c : UInt8) (x : List UInt8) : (Lib.cut x [c]).1.length ≤ x.length ∧ (Lib.cut x [c]).2.1.length ≤ x.length := by
  unfold Lib.cut
  split <;> simp; omega
theorem cut_ok {w0 : World} {base : Nat} {H : List Seg} {x : List UInt8} (c : UInt8) (hx : x.length < 4294967281) (T : Tabs w0 base) :
    SCalls Tryz.prog 53 [str x, str [c]] w0 base H (fun v H' => v = .tuple #[str (Lib.cut x [c]).1, str (Lib.cut x [c]).2.1, .bool (Lib.cut x [c]).2.2] ∧ H' = H) := by
  obtain ⟨m, hm⟩ := T.max
  refine SCalls.of_draws fun w S => ?_
  exact Tryz.strings_Cut ⟨⟨x⟩⟩ ⟨⟨[c]⟩⟩ m w (by rw [str_size]; omega) (S.cellBelow T.lt0 hm)
theorem spF_len (c : UInt8) (l : List UInt8) : (spF c l).length = l.count c + 1 := by
  induction l with
  | nil => rfl
  | cons a l ih =>
    unfold spF
    by_cases h : a = c
    · subst h; simp [ih]
    · have : (spF c l) ≠ [] := spF_ne c l
      cases hs : spF c l with
      | nil => exact absurd hs this
      | cons y ys =>
        rw [hs] at ih
        simp at ih
        rw [List.count_cons]
        simp [h, ih]
theorem split_ok {w0 : World} {base : Nat} {H : List Seg} {x : List UInt8} (c : UInt8) (hx : x.length < 4294967281) (T : Tabs w0 base) :
    SCalls Tryz.prog 92 [str x, str [c]] w0 base H (fun v H' => ∃ y : Sl tyS 9, y.l = spF c x ∧ v = .slice y.A y.l.length y.C ∧ H' = y.s :: H) := by
  obtain ⟨m, hm⟩ := T.max
  have hk : Lib.countB ⟨⟨x⟩⟩ ⟨⟨[c]⟩⟩ = x.count c := by
    exact count_c c _ x (Nat.lt_succ_self _)
  have hb : (Lib.splitB ⟨⟨[c]⟩⟩ 0 (Lib.countB ⟨⟨x⟩⟩ ⟨⟨[c]⟩⟩) ⟨⟨x⟩⟩).map (fun b => b.data.toList) = spF c x := by
    rw [Lib.splitB_data, hk]
    exact splitK_sp c x
  have hcells : ((Lib.splitB ⟨⟨[c]⟩⟩ 0 (Lib.countB ⟨⟨x⟩⟩ ⟨⟨[c]⟩⟩) ⟨⟨x⟩⟩).map Value.string).toArray = (tyS.cells (spF c x)).toArray := by
    rw [← hb]
    congr 1
    rw [show tyS.cells = fun l => l.map str from funext fun l => by simp [Ty.cells, tyS, str, Value.cells, List.flatMap_singleton', List.map_eq_flatMap]]
    simp only [List.map_map]
    rfl
  have hc := SCalls.of_alloc (P := Tryz.prog) (f := 92) (args := [str x, str [c]]) (w0 := w0) (base := base) (H := H) (v := fun b => .slice (some ⟨b, 0, none⟩) (x.count c + 1) (x.count c + 1)) (o := .cells (tyS.cells (spF c x)).toArray 9) fun w S => by
    have := Tryz.strings_Split ⟨⟨x⟩⟩ ⟨⟨[c]⟩⟩ m w (by rw [str_size]; omega) (S.cellBelow T.lt0 hm) (Nat.le_refl 1)
    rw [hcells, hk] at this
    exact this.mono fun e w' ⟨h1, h2⟩ => ⟨h1, 0, h2⟩
  refine hc.mono ?_
  rintro v H' ⟨b, rfl, rfl⟩
  have hle : (spF c x).length ≤ x.length + 1 := by rw [spF_len]; have := List.count_le_length (a := c) (l := x); omega
  obtain ⟨s, hs, ho⟩ := own_new tyS 9 b (spF c x) (spF c x).length _ rfl rfl (by omega)
  subst hs
  exact ⟨⟨_, _, _, _, ho⟩, rfl, by simp only [spF_len], rfl⟩
theorem trim_ok {w0 : World} {base : Nat} {H : List Seg} {x cs : List UInt8} (hx : x.length ≤ 9223372036854775807) (hcs : cs.length < 4294967281) (ha : cs.all (fun b => decide (b.toNat < 128)) = true) :
    SCalls Tryz.prog 102 [str x, str cs] w0 base H (fun v H' => v = str (Lib.trimS x cs) ∧ H' = H) := by
  refine SCalls.of_below fun w S => ?_
  exact Any.strings_Trim_laid Tryz.lays160 (by kernel_rfl) ⟨⟨x⟩⟩ ⟨⟨cs⟩⟩ w (by rw [str_size]; omega) (by rw [str_size]; omega) (fun j b hb => of_decide_eq_true (List.all_eq_true.1 ha b (List.mem_iff_getElem?.2 ⟨j, hb⟩)))
end Go.Proofs.YtlkdmbpbjhjkfaaGreatDoor
