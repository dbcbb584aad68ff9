/- Responses: the plain law of reading. -/
import Derived.Lib.AtoiTie
import Derived.Lib.AtoiAllCases
import Derived.Lib.SplitLaws
import Derived.Test.YtlfkoimkojbghaaGreatDoorTB3
namespace Go.Proofs.YtlfkoimkojbghaaGreatDoor
set_option linter.unusedVariables false
set_option linter.unusedSimpArgs false
set_option maxRecDepth 100000

theorem decF_cl (n : Nat) : (decF n).any crlf = false := by
  induction n using Nat.strongRecOn with
  | _ n ih =>
    have key : ∀ k : Fin 10, crlf (UInt8.ofNat (48 + k.val)) = false := by decide
    rw [decF]
    split
    · rename_i h; simpa using key ⟨n, h⟩
    · rw [List.any_append, ih (n / 10) (by omega)]
      simpa using key ⟨n % 10, by omega⟩
theorem reason_cl (s : Int) : (reasonF s).any crlf = false := by
  have key : ∀ l : List (Int × List UInt8), (∀ p ∈ l, p.2.any crlf = false) → ((atK s l).getD []).any crlf = false := by
    intro l
    induction l with
    | nil => intro _; rfl
    | cons p r ih =>
      intro h
      rw [atK]
      split
      · exact h p (by simp)
      · exact ih fun q hq => h q (by simp [hq])
  exact key REASONS (by decide)

/-- How strconv.Atoi ends. -/
def atoiV (s : List UInt8) : Int := match Lib.atoiAll s with | .ok v => v | .range => Lib.atoiSat s | _ => 0
def atoiK (s : List UInt8) : Bool := match Lib.atoiAll s with | .ok _ => true | _ => false
theorem atoi_dec (n : Nat) (h : n ≤ 1073741824) : atoiV (decF n) = (n : Int) ∧ atoiK (decF n) = true := by
  have h1 := size_atoi (size_dec n h)
  have h2 := decF_len n h
  have h3 : Lib.atoiAll (decF n) = .ok (n : Int) := by rw [Lib.atoiAll_short _ (by omega), h1]; rfl
  simp [atoiV, atoiK, h3]
theorem atoiV_bd (s : List UInt8) : -9223372036854775808 ≤ atoiV s ∧ atoiV s ≤ 9223372036854775807 := by
  unfold atoiV
  split
  · rename_i v h; exact Lib.atoiAll_bounds h
  · unfold Lib.atoiSat; split <;> omega
  · omega
/-- Where a separator first stands. -/
theorem index_skip {c : UInt8} {l : List UInt8} (sub rest : List UInt8) (h : l.any (fun x => x == c) = false) : Lib.index (l ++ rest) (c :: sub) = if Lib.index rest (c :: sub) = -1 then -1 else Lib.index rest (c :: sub) + (l.length : Int) := by
  have hg := Lib.index_ge rest (c :: sub)
  induction l with
  | nil => simp only [List.nil_append, List.length_nil]; split <;> omega
  | cons a l ih =>
    have h1 : ¬ a = c := by simp at h; exact h.1
    have h2 : l.any (fun x => x == c) = false := by simp at h; simpa using h.2
    have hp : List.isPrefixOf (c :: sub) (a :: (l ++ rest)) = false := by
      simp only [List.isPrefixOf, Bool.and_eq_false_iff, beq_eq_false_iff_ne]; exact .inl fun e => h1 e.symm
    rw [List.cons_append, Lib.index, hp, ih h2]
    by_cases h3 : Lib.index rest (c :: sub) = -1
    · simp [h3]
    · have h4 : ¬ (Lib.index rest (c :: sub) + (l.length : Int) == -1) = true := by simp only [beq_iff_eq]; omega
      simp only [if_neg h3, if_neg h4, Bool.false_eq_true, if_false, List.length_cons]; omega
theorem index_hit {c : UInt8} {l : List UInt8} (sub rest : List UInt8) (h : l.any (fun x => x == c) = false) : Lib.index (l ++ c :: (sub ++ rest)) (c :: sub) = (l.length : Int) := by
  have e : Lib.index (c :: (sub ++ rest)) (c :: sub) = 0 := by
    rw [Lib.index, if_pos]
    rw [List.isPrefixOf_iff_prefix]; exact ⟨rest, by simp⟩
  rw [index_skip sub _ h, e]; simp
theorem index_no {c : UInt8} {l : List UInt8} (sub : List UInt8) (h : l.any (fun x => x == c) = false) : Lib.index l (c :: sub) = -1 := by
  have := index_skip sub [] h
  rw [List.append_nil] at this
  rw [this]; simp [Lib.index]
theorem cl_13 {l : List UInt8} (h : l.any crlf = false) : l.any (fun x => x == 13) = false := by
  rw [List.any_eq_false] at h ⊢
  intro x hx h2
  apply h x hx
  rw [eq_of_beq h2]; rfl
theorem cut_hit {c : UInt8} {n v sub : List UInt8} (h : n.any (fun x => x == c) = false) : Lib.cut (n ++ c :: (sub ++ v)) (c :: sub) = (n, v, true) := by
  unfold Lib.cut
  rw [index_hit sub v h, if_pos (by omega)]
  simp
/-- Lines, with ends behind them; with ends between them. -/
def joinE : List (List UInt8) → List UInt8
  | [] => []
  | l :: ls => l ++ 13 :: 10 :: joinE ls
def joinI : List UInt8 → List (List UInt8) → List UInt8
  | l, [] => l
  | l, m :: ls => l ++ 13 :: 10 :: joinI m ls
theorem joinE_I (l : List UInt8) (ls : List (List UInt8)) : joinE (l :: ls) = joinI l ls ++ [13, 10] := by
  induction ls generalizing l with
  | nil => rfl
  | cons m ls ih => rw [joinE, ih m, joinI]; simp
theorem joinE_app (a b : List (List UInt8)) : joinE (a ++ b) = joinE a ++ joinE b := by
  induction a with
  | nil => rfl
  | cons l a ih => rw [List.cons_append, joinE, joinE, ih]; simp
theorem joinI_head (a : UInt8) (l : List UInt8) (ls : List (List UInt8)) : ∃ r, joinI (a :: l) ls = a :: r := by
  cases ls with
  | nil => exact ⟨_, rfl⟩
  | cons m ls => exact ⟨_, rfl⟩
theorem index_end (l : List UInt8) (ls : List (List UInt8)) (t : List UInt8) (h : ∀ x ∈ l :: ls, x ≠ [] ∧ x.any crlf = false) : Lib.index (joinI l ls ++ ([13, 10, 13, 10] ++ t)) [13, 10, 13, 10] = ((joinI l ls).length : Int) := by
  induction ls generalizing l with
  | nil => exact index_hit [10, 13, 10] t (cl_13 (h l (by simp)).2)
  | cons m ls ih =>
    have hm := h m (by simp)
    have hi := ih m fun x hx => h x (by simp only [List.mem_cons] at hx ⊢; exact .inr hx)
    cases m with
    | nil => exact absurd rfl hm.1
    | cons a m =>
      have ha : ¬ a = 13 := by have := hm.2; simp [crlf] at this; exact this.1.1
      obtain ⟨r, hr⟩ := joinI_head a m ls
      rw [hr, List.cons_append] at hi
      rw [joinI, List.append_assoc, index_skip _ _ (cl_13 (h l (by simp)).2), List.cons_append, List.cons_append, hr, List.cons_append]
      have p1 : List.isPrefixOf [13, 10, 13, 10] (13 :: 10 :: a :: (r ++ ([13, 10, 13, 10] ++ t))) = false := by
        simp [List.isPrefixOf]; intro e; exact absurd e.symm ha
      have p2 : List.isPrefixOf [13, 10, 13, 10] (10 :: a :: (r ++ ([13, 10, 13, 10] ++ t))) = false := by
        simp [List.isPrefixOf]
      have e2 : Lib.index (10 :: a :: (r ++ ([13, 10, 13, 10] ++ t))) [13, 10, 13, 10] = ((a :: r).length : Int) + 1 := by
        rw [Lib.index, p2, hi, if_neg (by simp), if_neg (by simp only [beq_iff_eq]; omega)]
      have e1 : Lib.index (13 :: 10 :: a :: (r ++ ([13, 10, 13, 10] ++ t))) [13, 10, 13, 10] = ((a :: r).length : Int) + 1 + 1 := by
        rw [Lib.index, p1, e2, if_neg (by simp), if_neg (by simp only [beq_iff_eq]; omega)]
      rw [e1, if_neg (by omega)]
      simp only [List.length_append, List.length_cons]; omega
theorem splitK_join (l : List UInt8) (ls : List (List UInt8)) (h : ∀ x ∈ l :: ls, x.any crlf = false) : Lib.splitK [13, 10] 0 ls.length (joinI l ls) = l :: ls := by
  induction ls generalizing l with
  | nil => rfl
  | cons m ls ih =>
    have hi : Lib.index (joinI l (m :: ls)) [13, 10] = (l.length : Int) := index_hit [10] (joinI m ls) (cl_13 (h l (by simp)))
    rw [List.length_cons, Lib.splitK, hi, if_neg (by simp only [beq_iff_eq]; omega)]
    have e1 : (joinI l (m :: ls)).take (((l.length : Int)).toNat + 0) = l := by rw [joinI]; simp
    have e2 : (joinI l (m :: ls)).drop (((l.length : Int)).toNat + ([13, 10] : List UInt8).length) = joinI m ls := by rw [joinI]; simp
    rw [e1, e2, ih m fun x hx => h x (by simp only [List.mem_cons] at hx ⊢; exact .inr hx)]
theorem count_join (n : Nat) (l : List UInt8) (ls : List (List UInt8)) (h : ∀ x ∈ l :: ls, x.any crlf = false) (hn : (joinI l ls).length < n) : Lib.countFrom [13, 10] n (joinI l ls) = ls.length := by
  induction ls generalizing l n with
  | nil =>
    cases n with
    | zero => omega
    | succ n => rw [joinI, Lib.countFrom, index_no _ (cl_13 (h l (by simp)))]; rfl
  | cons m ls ih =>
    cases n with
    | zero => omega
    | succ n =>
      have hi : Lib.index (joinI l (m :: ls)) [13, 10] = (l.length : Int) := index_hit [10] (joinI m ls) (cl_13 (h l (by simp)))
      have e2 : (joinI l (m :: ls)).drop (((l.length : Int)).toNat + ([13, 10] : List UInt8).length) = joinI m ls := by rw [joinI]; simp
      rw [Lib.countFrom, hi, if_neg (by simp only [beq_iff_eq]; omega), e2, ih n m (fun x hx => h x (by simp only [List.mem_cons] at hx ⊢; exact .inr hx)) (by rw [joinI] at hn; simp only [List.length_append, List.length_cons] at hn; omega)]
      simp only [List.length_cons]; omega
theorem split_join (l : List UInt8) (ls : List (List UInt8)) (h : ∀ x ∈ l :: ls, x.any crlf = false) : Lib.split (joinI l ls) [13, 10] = l :: ls := by
  rw [Lib.split, Lib.count, count_join _ l ls h (by omega), splitK_join l ls h]
/-- A response's lines. -/
def CNM : List UInt8 := [67, 111, 110, 110, 101, 99, 116, 105, 111, 110]
def stL (st : Int) : List UInt8 := H11 ++ (decF st.toNat ++ ([32] ++ reasonF st))
def fldL (f : Fld) : List UInt8 := f.1 ++ ([58, 32] ++ f.2)
def lenL (n : Nat) : List UInt8 := CLN ++ decF n
def tailL (keep : Bool) : List (List UInt8) := if keep then [] else [CCL]
def restL (r : RespV) : List (List UInt8) := r.fs.map fldL ++ (lenL r.body.length :: tailL r.keep)
theorem fields_join (fs : List Fld) : joinE (fs.map fldL) = fieldsR fs := by
  induction fs with
  | nil => rfl
  | cons f fs ih => rw [List.map_cons, joinE, ih]; simp [fieldsR, fldL]
theorem headR_join (r : RespV) : headR r = joinE (stL r.st :: restL r) ++ [13, 10] := by
  rw [joinE, restL, joinE_app, fields_join, joinE]
  cases hk : r.keep <;> simp [headR, stB, stL, lenB, lenL, endB, tailL, joinE, hk]
theorem respB_join (r : RespV) (t : List UInt8) : respB r ++ t = joinI (stL r.st) (restL r) ++ ([13, 10, 13, 10] ++ (r.body ++ t)) := by
  rw [respB, headR_join, joinE_I]; simp
theorem okR_of {r : RespV} (h : okR r = true) : reasonF r.st ≠ [] ∧ 200 ≤ r.st ∧ r.st ≤ 505 ∧ r.body.length ≤ 65535 ∧ r.fs.all fldR = true := by
  simp only [okR, Bool.and_eq_true, decide_eq_true_eq] at h
  obtain ⟨⟨⟨⟨h1, h2⟩, h3⟩, h4⟩, h5⟩ := h
  have := reason_200 h1
  exact ⟨h1, this.1, this.2, h3, h4⟩
theorem fldR_of {f : Fld} (h : fldR f = true) : f.1 ≠ [] ∧ f.1.any crlf = false ∧ f.1.any (fun x => x == 58) = false ∧ f.2.any crlf = false ∧ f.1 ≠ CL1 ∧ f.1 ≠ CNM := by
  simp only [fldR, fieldOk, Bool.and_eq_true] at h
  obtain ⟨⟨hw, hv⟩, ho⟩ := h
  obtain ⟨w1, w2, w3, w4⟩ := word_cl hw
  have ho2 : ownF f = false := by simpa using ho
  have hn := of_decide_eq_false ho2
  refine ⟨w1, w2, w4, (value_cl hv).1, fun e => hn (.inl ?_), fun e => hn (.inr (.inl ?_))⟩
  · rw [e]; decide +kernel
  · rw [e]; decide +kernel
theorem fldL_ok {f : Fld} (h : fldR f = true) : fldL f ≠ [] ∧ (fldL f).any crlf = false := by
  obtain ⟨h1, h2, _, h4, _⟩ := fldR_of h
  refine ⟨by simp [fldL], ?_⟩
  rw [fldL, List.any_append, List.any_append, h2, h4]; decide
theorem stL_ok (st : Int) : stL st ≠ [] ∧ (stL st).any crlf = false := by
  refine ⟨by simp [stL, H11], ?_⟩
  rw [stL, List.any_append, List.any_append, List.any_append, decF_cl, reason_cl]; decide
theorem lenL_ok (n : Nat) : lenL n ≠ [] ∧ (lenL n).any crlf = false := by
  refine ⟨by simp [lenL, CLN], ?_⟩
  rw [lenL, List.any_append, decF_cl]; decide
theorem tailL_ok {k : Bool} {x : List UInt8} (h : x ∈ tailL k) : x = CCL := by
  cases k <;> simp [tailL] at h; exact h
theorem rest_ok {r : RespV} (h : okR r = true) : ∀ x ∈ stL r.st :: restL r, x ≠ [] ∧ x.any crlf = false := by
  obtain ⟨_, _, _, _, h4⟩ := okR_of h
  intro x hx
  simp only [restL, List.mem_cons, List.mem_append, List.mem_map] at hx
  rcases hx with rfl | ⟨f, hf, rfl⟩ | rfl | hx
  · exact stL_ok _
  · exact fldL_ok (List.all_eq_true.1 h4 f hf)
  · exact lenL_ok _
  · rw [tailL_ok hx]; decide
/-- P15.2, as the program reads: line by line. -/
def linesP (ok : Bool) (st : Int) (body : List UInt8) : List Fld → List (List UInt8) → Option RespV
  | _, [] => none
  | fs, x :: xs =>
    if (Lib.cut x [58, 32]).1 ≠ CL1 then linesP ok st body (fs ++ [((Lib.cut x [58, 32]).1, (Lib.cut x [58, 32]).2.1)]) xs
    else if (((((Lib.cut x [58, 32]).2.2 = false ∨ ok = false) ∨ atoiK (Lib.cut x [58, 32]).2.1 = false) ∨ atoiV (Lib.cut x [58, 32]).2.1 < 0) ∨ (body.length : Int) < atoiV (Lib.cut x [58, 32]).2.1) then none
    else some ⟨st, fs, body.take (atoiV (Lib.cut x [58, 32]).2.1).toNat, decide (xs = [])⟩
def rparseF (b : List UInt8) : Option RespV :=
  if Lib.index b [13, 10, 13, 10] < 0 then none
  else if (Lib.splitN ((Lib.split (b.take (Lib.index b [13, 10, 13, 10]).toNat) [13, 10]).getD 0 []) [32] 3).length < 2 then none
  else linesP (atoiK ((Lib.splitN ((Lib.split (b.take (Lib.index b [13, 10, 13, 10]).toNat) [13, 10]).getD 0 []) [32] 3).getD 1 [])) (atoiV ((Lib.splitN ((Lib.split (b.take (Lib.index b [13, 10, 13, 10]).toNat) [13, 10]).getD 0 []) [32] 3).getD 1 []))
    (b.drop ((Lib.index b [13, 10, 13, 10]).toNat + 4)) [] ((Lib.split (b.take (Lib.index b [13, 10, 13, 10]).toNat) [13, 10]).drop 1)
theorem linesP_fields (ok : Bool) (st : Int) (body : List UInt8) (xs : List (List UInt8)) (fs acc : List Fld) (h : fs.all fldR = true) : linesP ok st body acc (fs.map fldL ++ xs) = linesP ok st body (acc ++ fs) xs := by
  induction fs generalizing acc with
  | nil => simp
  | cons f fs ih =>
    simp only [List.all_cons, Bool.and_eq_true] at h
    obtain ⟨_, _, h3, _, h5, _⟩ := fldR_of h.1
    have hc : Lib.cut (fldL f) [58, 32] = (f.1, f.2, true) := cut_hit (sub := [32]) h3
    rw [List.map_cons, List.cons_append, linesP, hc, if_pos h5, ih _ h.2]
    simp
theorem cut_len (n : Nat) : Lib.cut (lenL n) [58, 32] = (CL1, decF n, true) := by
  have h : CL1.any (fun x => x == 58) = false := by decide
  have e : lenL n = CL1 ++ 58 :: ([32] ++ decF n) := by simp [lenL, CLN, CL1]
  rw [e]; exact cut_hit (sub := [32]) h
theorem linesP_end (st : Int) (b t : List UInt8) (fs : List Fld) (keep : Bool) (h : b.length ≤ 65535) : linesP true st (b ++ t) fs (lenL b.length :: tailL keep) = some ⟨st, fs, b, keep⟩ := by
  obtain ⟨h1, h2⟩ := atoi_dec b.length (by omega)
  have e : decide (tailL keep = []) = keep := by cases keep <;> simp [tailL]
  rw [linesP, cut_len, if_neg (by simp), if_neg, h1, e]
  · simp
  · simp only [h1, h2, List.length_append]
    intro hq
    rcases hq with (((h | h) | h) | h) | h
    · cases h
    · cases h
    · cases h
    · omega
    · omega
theorem decF_sp (n : Nat) : (decF n).any (fun x => x == 32) = false := by
  induction n using Nat.strongRecOn with
  | _ n ih =>
    have key : ∀ k : Fin 10, (UInt8.ofNat (48 + k.val) == 32) = false := by decide
    rw [decF]
    split
    · rename_i h; simpa using key ⟨n, h⟩
    · rw [List.any_append, ih (n / 10) (by omega)]
      simpa using key ⟨n % 10, by omega⟩
theorem words_st (st : Int) : (Lib.splitN (stL st) [32] 3).length = 3 ∧ (Lib.splitN (stL st) [32] 3).getD 1 [] = decF st.toNat := by
  have hl : 9 ≤ (stL st).length := by simp only [stL, H11, List.length_append, List.length_cons, List.length_nil]; omega
  have e0 : min 3 ((stL st).length + 1) - 1 = 2 := by omega
  have e1 : stL st = [72, 84, 84, 80, 47, 49, 46, 49] ++ 32 :: ([] ++ (decF st.toNat ++ 32 :: ([] ++ reasonF st))) := by simp [stL, H11]
  have i1 : Lib.index (stL st) [32] = 8 := by rw [e1]; exact index_hit [] _ (by decide)
  have d1 : (stL st).drop ((8 : Int).toNat + ([32] : List UInt8).length) = decF st.toNat ++ 32 :: ([] ++ reasonF st) := by rw [e1]; rfl
  have i2 : Lib.index (decF st.toNat ++ 32 :: ([] ++ reasonF st)) [32] = ((decF st.toNat).length : Int) := index_hit [] _ (decF_sp _)
  have t2 : (decF st.toNat ++ 32 :: ([] ++ reasonF st)).take (((decF st.toNat).length : Int).toNat + 0) = decF st.toNat := by simp
  have e : Lib.splitN (stL st) [32] 3 = [(stL st).take ((8 : Int).toNat + 0), decF st.toNat, (decF st.toNat ++ 32 :: ([] ++ reasonF st)).drop (((decF st.toNat).length : Int).toNat + ([32] : List UInt8).length)] := by
    rw [Lib.splitN, e0, Lib.splitK, i1, if_neg (by decide), d1, Lib.splitK, i2, if_neg (by simp only [beq_iff_eq]; omega), t2, Lib.splitK]
  rw [e]; exact ⟨rfl, rfl⟩
/-- A response is read as it was. -/
theorem rparse_back {r : RespV} (h : okR r = true) (t : List UInt8) : rparseF (respB r ++ t) = some r := by
  obtain ⟨h1, h2, h3, h4, h5⟩ := okR_of h
  have hr := rest_ok h
  have hi := index_end (stL r.st) (restL r) (r.body ++ t) hr
  have e1 : (joinI (stL r.st) (restL r) ++ ([13, 10, 13, 10] ++ (r.body ++ t))).take (((joinI (stL r.st) (restL r)).length : Int)).toNat = joinI (stL r.st) (restL r) := by simp
  have e2 : (joinI (stL r.st) (restL r) ++ ([13, 10, 13, 10] ++ (r.body ++ t))).drop ((((joinI (stL r.st) (restL r)).length : Int)).toNat + 4) = r.body ++ t := by
    rw [Int.toNat_natCast, List.drop_append]
    have : (joinI (stL r.st) (restL r)).length + 4 - (joinI (stL r.st) (restL r)).length = 4 := by omega
    rw [this, List.drop_of_length_le (by omega)]; rfl
  have e3 := split_join (stL r.st) (restL r) fun x hx => (hr x hx).2
  obtain ⟨w1, w2⟩ := words_st r.st
  obtain ⟨a1, a2⟩ := atoi_dec r.st.toNat (by omega)
  rw [respB_join, rparseF, hi, e1, e2, e3, if_neg (by omega)]
  have e4 : ((stL r.st :: restL r).getD 0 []) = stL r.st := rfl
  rw [e4, w1, w2, a1, a2, if_neg (by omega)]
  have e5 : (stL r.st :: restL r).drop 1 = r.fs.map fldL ++ (lenL r.body.length :: tailL r.keep) := rfl
  rw [e5, linesP_fields _ _ _ _ _ _ h5, List.nil_append, show ((r.st.toNat : Nat) : Int) = r.st by omega]
  exact linesP_end r.st r.body t r.fs r.keep h4
/-- .. and as the answer beside it reads. -/
def hdrsP (rest : List UInt8) (size : Int) (keep : Bool) (fs : List Fld) : Option (Int × Bool × List Fld × List UInt8) :=
  match h : cutCR rest with
  | none => none
  | some (l, r) => if l = [] then some (size, keep, fs, r) else if (Lib.cut l [58, 32]).2.2 = false then none else if (Lib.cut l [58, 32]).1 = CL1 then hdrsP r (atoiV (Lib.cut l [58, 32]).2.1) keep fs else if (Lib.cut l [58, 32]).1 = CNM then hdrsP r size false fs else hdrsP r size keep (fs ++ [((Lib.cut l [58, 32]).1, (Lib.cut l [58, 32]).2.1)])
termination_by rest.length
decreasing_by all_goals (have := cutCR_len h; rw [this]; simp; omega)
theorem hdrs_none {rest : List UInt8} {size : Int} {keep : Bool} {fs : List Fld} (h : cutCR rest = none) : hdrsP rest size keep fs = none := by
  rw [hdrsP]
  split
  · rfl
  · rename_i h2; rw [h] at h2; cases h2
theorem hdrs_some {rest l r : List UInt8} {size : Int} {keep : Bool} {fs : List Fld} (h : cutCR rest = some (l, r)) : hdrsP rest size keep fs = if l = [] then some (size, keep, fs, r) else if (Lib.cut l [58, 32]).2.2 = false then none else if (Lib.cut l [58, 32]).1 = CL1 then hdrsP r (atoiV (Lib.cut l [58, 32]).2.1) keep fs else if (Lib.cut l [58, 32]).1 = CNM then hdrsP r size false fs else hdrsP r size keep (fs ++ [((Lib.cut l [58, 32]).1, (Lib.cut l [58, 32]).2.1)]) := by
  rw [hdrsP]
  split
  · rename_i h2; rw [h] at h2; cases h2
  · rename_i l2 r2 h2
    rw [h] at h2
    obtain ⟨rfl, rfl⟩ : l = l2 ∧ r = r2 := by simpa using h2
    rfl
def rreadF (b : List UInt8) : Option (RespV × List UInt8) :=
  match cutCR b with
  | none => none
  | some (first, r) =>
    if first.length < 13 then none
    else match hdrsP r (-1) true [] with
      | none => none
      | some (size, keep, fs, r2) => if size < 0 ∨ (r2.length : Int) < size then none else some (⟨atoiV ((first.drop 9).take 3), fs, r2.take size.toNat, keep⟩, r2.drop size.toNat)
theorem hdrs_fields (rest : List UInt8) (size : Int) (keep : Bool) (fs acc : List Fld) (h : fs.all fldR = true) : hdrsP (joinE (fs.map fldL) ++ rest) size keep acc = hdrsP rest size keep (acc ++ fs) := by
  induction fs generalizing acc with
  | nil => simp [joinE]
  | cons f fs ih =>
    simp only [List.all_cons, Bool.and_eq_true] at h
    obtain ⟨h1, h2, h3, h4, h5, h6⟩ := fldR_of h.1
    have hc : Lib.cut (fldL f) [58, 32] = (f.1, f.2, true) := cut_hit (sub := [32]) h3
    have hl : cutCR (joinE ((f :: fs).map fldL) ++ rest) = some (fldL f, joinE (fs.map fldL) ++ rest) := by
      rw [List.map_cons, joinE, List.append_assoc]; exact cutCR_app _ (fldL_ok h.1).2
    rw [hdrs_some hl, if_neg (fldL_ok h.1).1, hc, if_neg (by simp), if_neg h5, if_neg h6, ih _ h.2]
    simp
theorem hdrs_end (b : List UInt8) (n : Nat) (hn : n ≤ 65535) (keep : Bool) (fs : List Fld) : hdrsP (joinE (lenL n :: tailL keep) ++ ([13, 10] ++ b)) (-1) true fs = some ((n : Int), keep, fs, b) := by
  have h1 : cutCR (joinE (lenL n :: tailL keep) ++ ([13, 10] ++ b)) = some (lenL n, joinE (tailL keep) ++ ([13, 10] ++ b)) := by
    rw [joinE, List.append_assoc]; exact cutCR_app _ (lenL_ok n).2
  have h0 : cutCR ([13, 10] ++ b) = some ([], b) := cutCR_app (l := []) b rfl
  rw [hdrs_some h1, if_neg (lenL_ok n).1, cut_len, if_neg (by simp), if_pos rfl, (atoi_dec n (by omega)).1]
  cases keep with
  | true => show hdrsP ([13, 10] ++ b) _ _ _ = _; rw [hdrs_some h0, if_pos rfl]
  | false =>
    have h2 : cutCR (joinE (tailL false) ++ ([13, 10] ++ b)) = some (CCL, [13, 10] ++ b) := by
      show cutCR (joinE [CCL] ++ ([13, 10] ++ b)) = _
      rw [joinE, List.append_assoc]; exact cutCR_app _ (by decide)
    have h3 : Lib.cut CCL [58, 32] = (CNM, [99, 108, 111, 115, 101], true) := cut_hit (c := 58) (sub := [32]) (n := CNM) (v := [99, 108, 111, 115, 101]) (by decide)
    rw [hdrs_some h2, if_neg (by decide), h3, if_neg (by simp), if_neg (by decide), if_pos rfl, hdrs_some h0, if_pos rfl]
theorem decF_three (n : Nat) (h1 : 100 ≤ n) (h2 : n < 1000) : (decF n).length = 3 := by
  rw [decF, if_neg (by omega), decF, if_neg (by omega), decF, if_pos (by omega)]; rfl
theorem rread_back {r : RespV} (h : okR r = true) (t : List UInt8) : rreadF (respB r ++ t) = some (r, t) := by
  obtain ⟨h1, h2, h3, h4, h5⟩ := okR_of h
  have hd := decF_three r.st.toNat (by omega) (by omega)
  have e0 : respB r ++ t = stL r.st ++ 13 :: 10 :: (joinE (r.fs.map fldL) ++ (joinE (lenL r.body.length :: tailL r.keep) ++ ([13, 10] ++ (r.body ++ t)))) := by
    rw [respB, headR_join, joinE, restL, joinE_app]; simp
  have hc : cutCR (respB r ++ t) = some (stL r.st, joinE (r.fs.map fldL) ++ (joinE (lenL r.body.length :: tailL r.keep) ++ ([13, 10] ++ (r.body ++ t)))) := by
    rw [e0]; exact cutCR_app _ (stL_ok _).2
  have hl : ¬ (stL r.st).length < 13 := by
    have : 0 < (reasonF r.st).length := List.length_pos_iff.2 h1
    simp only [stL, H11, List.length_append, List.length_cons, List.length_nil, hd]; omega
  have hx : ((stL r.st).drop 9).take 3 = decF r.st.toNat := by
    have : (stL r.st).drop 9 = decF r.st.toNat ++ ([32] ++ reasonF r.st) := rfl
    rw [this, List.take_append_of_le_length (by omega), List.take_of_length_le (by omega)]
  have ha := (atoi_dec r.st.toNat (by omega)).1
  unfold rreadF
  rw [hc]
  dsimp only
  rw [if_neg hl, hdrs_fields _ _ _ _ _ h5, List.nil_append, hdrs_end _ _ h4]
  dsimp only
  rw [if_neg (by rw [List.length_append]; omega), hx, ha]
  simp only [Int.toNat_natCast, List.take_left, List.drop_left]
  rw [show ((r.st.toNat : Nat) : Int) = r.st by omega]
/-- P15.2. -/
def readF (b : List UInt8) (at_ : Int) : RespV × Int × Int :=
  if at_ < 0 ∨ (b.length : Int) < at_ then (.zero, 0, 5)
  else match rparseF (b.drop at_.toNat) with
    | none => (.zero, 0, 4)
    | some r => if okR r = true ∧ respB r <+: b.drop at_.toNat then (r, at_ + ((respB r).length : Int), 0) else (.zero, 0, 4)
theorem read_range {b : List UInt8} {at_ : Int} (h : at_ < 0 ∨ (b.length : Int) < at_) : readF b at_ = (.zero, 0, 5) := by rw [readF, if_pos h]
theorem read_no {b : List UInt8} {at_ : Int} (h : ¬ (at_ < 0 ∨ (b.length : Int) < at_)) (h2 : ∀ r, okR r = true → ¬ respB r <+: b.drop at_.toNat) : readF b at_ = (.zero, 0, 4) := by
  rw [readF, if_neg h]
  split
  · rfl
  · rename_i r hr; rw [if_neg (fun h3 => h2 r h3.1 h3.2)]
theorem read_yes {b : List UInt8} {at_ : Int} {r : RespV} (h : ¬ (at_ < 0 ∨ (b.length : Int) < at_)) (h1 : okR r = true) (h2 : respB r <+: b.drop at_.toNat) : readF b at_ = (r, at_ + ((respB r).length : Int), 0) := by
  obtain ⟨t, ht⟩ := h2
  have := rparse_back h1 t
  rw [ht] at this
  rw [readF, if_neg h, this]
  dsimp only
  rw [if_pos ⟨h1, t, ht⟩]
theorem ref_none {B : List UInt8} (h : rreadF B = none) : ∀ r, okR r = true → ¬ respB r <+: B := by
  rintro r hr ⟨t, ht⟩
  rw [← ht, rread_back hr t] at h; cases h
theorem ref_bad {B t : List UInt8} {r : RespV} (h : rreadF B = some (r, t)) (h2 : ¬ (okR r = true ∧ respB r = B.take (B.length - t.length))) : ∀ r, okR r = true → ¬ respB r <+: B := by
  rintro r2 hr ⟨t2, ht⟩
  rw [← ht, rread_back hr t2] at h
  obtain ⟨rfl, rfl⟩ : r2 = r ∧ t2 = t := by simpa using h
  apply h2
  refine ⟨hr, ?_⟩
  rw [← ht, List.length_append, Nat.add_sub_cancel, List.take_left]

end Go.Proofs.YtlfkoimkojbghaaGreatDoor
