/- Responses: the plain law, reasons. -/
import Derived.Test.YtlkdmbpbjhjkfaaGreatDoorT8
import Derived.Test.YtlkdmbpbjhjkfaaGreatDoorLgW
import Derived.Test.YtlkdmbpbjhjkfaaGreatDoorLgM
import Derived.Test.YtlkdmbpbjhjkfaaGreatDoorLgU
import Derived.Test.YtlkdmbpbjhjkfaaGreatDoorLgX
import Derived.Test.YtlkdmbpbjhjkfaaGreatDoorLgY
namespace Go.Proofs.YtlkdmbpbjhjkfaaGreatDoor
set_option linter.unusedVariables false
set_option linter.unusedSimpArgs false
set_option maxRecDepth 100000

/-- The reasons. -/
def rsV (l : List UInt8) : Value := .agg #[str l]
def REASONS : List (Int × List UInt8) := [(200, [79, 75]), (400, [66, 97, 100, 32, 82, 101, 113, 117, 101, 115, 116]), (404, [78, 111, 116, 32, 70, 111, 117, 110, 100]), (405, [77, 101, 116, 104, 111, 100, 32, 78, 111, 116, 32, 65, 108, 108, 111, 119, 101, 100]), (411, [76, 101, 110, 103, 116, 104, 32, 82, 101, 113, 117, 105, 114, 101, 100]), (413, [67, 111, 110, 116, 101, 110, 116, 32, 84, 111, 111, 32, 76, 97, 114, 103, 101]), (414, [85, 82, 73, 32, 84, 111, 111, 32, 76, 111, 110, 103]), (415, [85, 110, 115, 117, 112, 112, 111, 114, 116, 101, 100, 32, 77, 101, 100, 105, 97, 32, 84, 121, 112, 101]), (417, [69, 120, 112, 101, 99, 116, 97, 116, 105, 111, 110, 32, 70, 97, 105, 108, 101, 100]), (429, [84, 111, 111, 32, 77, 97, 110, 121, 32, 82, 101, 113, 117, 101, 115, 116, 115]), (431, [82, 101, 113, 117, 101, 115, 116, 32, 72, 101, 97, 100, 101, 114, 32, 70, 105, 101, 108, 100, 115, 32, 84, 111, 111, 32, 76, 97, 114, 103, 101]), (501, [78, 111, 116, 32, 73, 109, 112, 108, 101, 109, 101, 110, 116, 101, 100]), (503, [83, 101, 114, 118, 105, 99, 101, 32, 85, 110, 97, 118, 97, 105, 108, 97, 98, 108, 101]), (505, [72, 84, 84, 80, 32, 86, 101, 114, 115, 105, 111, 110, 32, 78, 111, 116, 32, 83, 117, 112, 112, 111, 114, 116, 101, 100])]
def reasonF (s : Int) : List UInt8 := (atK s REASONS).getD []
theorem rs_get (o : Option (List UInt8)) : ((o.map rsV).getD (.agg #[str []])) = .agg #[str (o.getD [])] := by cases o <;> rfl
theorem reasonF_len (s : Int) : (reasonF s).length ≤ 40 := by
  have key : ∀ l : List (Int × List UInt8), (∀ p ∈ l, p.2.length ≤ 40) → ((atK s l).getD []).length ≤ 40 := by
    intro l
    induction l with
    | nil => intro _; simp [atK]
    | cons p r ih =>
      intro h
      rw [atK]
      split
      · exact h p (by simp)
      · exact ih fun q hq => h q (by simp [hq])
  exact key REASONS (by decide)
theorem reason_200 {s : Int} (h : reasonF s ≠ []) : 200 ≤ s ∧ s ≤ 505 := by
  have key : ∀ l : List (Int × List UInt8), (∀ p ∈ l, 200 ≤ p.1 ∧ p.1 ≤ 505) → (atK s l).getD [] ≠ [] → 200 ≤ s ∧ s ≤ 505 := by
    intro l
    induction l with
    | nil => intro _ h; simp [atK] at h
    | cons p r ih =>
      intro h h2
      rw [atK] at h2
      split at h2
      · rename_i h3; rw [h3]; exact h p (by simp)
      · exact ih (fun q hq => h q (by simp [hq])) h2
  exact key REASONS (by decide) h
/-- A field that a response writes itself. -/
def ownF (f : Fld) : Bool := decide (lowerF f.1 = lowerF CLEN ∨ lowerF f.1 = lowerF CONN ∨ lowerF f.1 = lowerF TENC)
theorem one_field (f : Fld) (nm : List UInt8) : (fieldF [f] nm).2 = if lowerF f.1 = lowerF nm then 1 else 0 := by
  by_cases h : lowerF f.1 = lowerF nm <;> simp [fieldF, allF, h]
theorem one_pos {f : Fld} {nm : List UInt8} : (0 : Int) < ((fieldF [f] nm).2 : Int) ↔ lowerF f.1 = lowerF nm := by
  rw [one_field]; split <;> simp [*]
def fldR (f : Fld) : Bool := fieldOk f && !ownF f
def sumF (fs : List Fld) : Nat := (fs.map fun f => f.1.length + f.2.length).sum
theorem sumF_snoc (fs : List Fld) (k : Nat) (h : k < fs.length) : sumF (fs.take (k + 1)) = sumF (fs.take k) + ((fs.getD k ([], [])).1.length + (fs.getD k ([], [])).2.length) := by
  rw [List.take_succ_eq_append_getElem h, show fs.getD k ([], []) = fs[k] by simp [List.getD, h]]
  simp only [sumF, List.map_append, List.sum_append, List.map_cons, List.map_nil, List.sum_cons, List.sum_nil, Nat.add_zero]
theorem sumF_take (fs : List Fld) (k : Nat) : sumF (fs.take k) ≤ sumF fs := by
  conv => rhs; rw [← List.take_append_drop k fs]
  simp only [sumF, List.map_append, List.sum_append]; omega
theorem sumF_mem {fs : List Fld} {f : Fld} (h : f ∈ fs) : f.1.length + f.2.length ≤ sumF fs := by
  induction fs with
  | nil => cases h
  | cons g fs ih =>
    simp only [sumF, List.map_cons, List.sum_cons]
    rcases List.mem_cons.1 h with rfl | h
    · omega
    · have := ih h; simp only [sumF] at this; omega
/-- A response, in plain words. -/
structure RespV where
  st : Int
  fs : List Fld
  body : List UInt8
  keep : Bool
deriving DecidableEq
def RespV.zero : RespV := ⟨0, [], [], false⟩
def okR (r : RespV) : Bool := decide (reasonF r.st ≠ []) && decide (r.fs.length ≤ 16) && decide (r.body.length ≤ 65535) && r.fs.all fldR && decide (sumF r.fs ≤ 4096)
def respE (r : RespV) : Int := if okR r then 0 else 2
theorem respE_ok {r : RespV} (h : respE r = 0) : okR r = true := by
  unfold respE at h
  split at h
  · assumption
  · cases h
def H11 : List UInt8 := [72, 84, 84, 80, 47, 49, 46, 49, 32]
def CLN : List UInt8 := [67, 111, 110, 116, 101, 110, 116, 45, 76, 101, 110, 103, 116, 104, 58, 32]
def CCL : List UInt8 := [67, 111, 110, 110, 101, 99, 116, 105, 111, 110, 58, 32, 99, 108, 111, 115, 101]
def fieldsR (fs : List Fld) : List UInt8 := fs.flatMap fun f => f.1 ++ ([58, 32] ++ (f.2 ++ [13, 10]))
def stB (st : Int) : List UInt8 := H11 ++ (decF st.toNat ++ ([32] ++ (reasonF st ++ [13, 10])))
def lenB (n : Nat) : List UInt8 := CLN ++ (decF n ++ [13, 10])
def endB (keep : Bool) : List UInt8 := (if keep then [] else CCL ++ [13, 10]) ++ [13, 10]
def headR (r : RespV) : List UInt8 := stB r.st ++ (fieldsR r.fs ++ (lenB r.body.length ++ endB r.keep))
def respB (r : RespV) : List UInt8 := headR r ++ r.body
def respL (r : RespV) : List UInt8 := if okR r then respB r else []
theorem fieldsR_snoc (fs : List Fld) (k : Nat) (h : k < fs.length) : fieldsR (fs.take (k + 1)) = fieldsR (fs.take k) ++ ((fs.getD k ([], [])).1 ++ ([58, 32] ++ ((fs.getD k ([], [])).2 ++ [13, 10]))) := by
  rw [List.take_succ_eq_append_getElem h, show fs.getD k ([], []) = fs[k] by simp [List.getD, h]]
  simp only [fieldsR, List.flatMap_append, List.flatMap_cons, List.flatMap_nil, List.append_nil]
theorem fieldsR_len (fs : List Fld) : (fieldsR fs).length = sumF fs + 4 * fs.length := by
  induction fs with
  | nil => rfl
  | cons f fs ih =>
    simp only [fieldsR, List.flatMap_cons, List.length_append, List.length_cons, List.length_nil, sumF, List.map_cons, List.sum_cons] at ih ⊢
    omega
/-- A part of a value, between two letters, in a head. -/
theorem part_ok {n c : List UInt8} (hc : c.length ≤ 2000) : writeE ⟨[65], [47], 0, [(n, ([120] ++ c) ++ [120])]⟩ = if (wordF n 64 && c.all valCh) = true then 0 else 2 := by
  have hv : valueF (([120] ++ c) ++ [120]) = c.all valCh := by
    have h1 : trimF (([120] ++ c) ++ [120]) = ([120] ++ c) ++ [120] := by
      rw [trim_same]
      right
      refine ⟨by simp; decide, ?_⟩
      have : ((([120] ++ c) ++ [120]) : List UInt8).getD ((([120] ++ c) ++ [120] : List UInt8).length - 1) 0 = 120 := by simp
      rw [this]; decide
    have h2 : (([120] ++ c) ++ [120] : List UInt8).all valCh = c.all valCh := by
      rw [List.all_append, List.all_append]
      have : ([120] : List UInt8).all valCh = true := by decide
      rw [this]; simp
    rw [valueF, h1, h2]; simp
  have hh : hostsF [(n, ([120] ++ c) ++ [120])] 0 = true := by
    rw [hostsF, one_field]
    split <;> simp
  have hok : okF ⟨[65], [47], 0, [(n, ([120] ++ c) ++ [120])]⟩ = (wordF n 64 && c.all valCh) := by
    simp only [okF, hh, List.all_cons, List.all_nil, fieldOk, hv, List.length_cons, List.length_nil, Bool.and_true]
    have h1 : wordF [65] 16 = true := by decide +kernel
    have h2 : targetF [47] = true := by decide +kernel
    rw [h1, h2]; simp
  rw [writeE, writeOk, hok]
  by_cases hw : (wordF n 64 && c.all valCh) = true
  · have hn : n.length ≤ 64 := by
      simp only [Bool.and_eq_true, wordF, decide_eq_true_eq] at hw; omega
    rw [hw, if_pos rfl, decide_eq_true (by
      simp only [headB, lineB, fieldsB, fieldB, HTTP1, List.length_append, List.length_cons, List.length_nil]; omega)]
    rfl
  · rw [if_neg hw]
    rw [Bool.not_eq_true] at hw
    rw [hw]; rfl

set_option maxHeartbeats 400000 in
theorem reason_ok {w0 : World} {base : Nat} {H : List Seg} (st : Int) :
    SCalls Tryz.prog 65 [.int .i64 st] w0 base (H) (fun v H' => v = str (reasonF st) ∧ H' = H) := by
  refine SCalls.of_walk (n := 22) Tryz.func65 rfl rfl rfl fun cs => ?_
  refine At.seq ?_
  refine At.region ?_
  refine AtL.assign (.inl rfl) rfl rfl ?_
  refine AtL.done ?_
  refine At.seq ?_
  refine At.region ?_
  refine AtL.makeMap kyI rsV (.inl rfl) rfl ?_
  intro b1
  refine AtL.build (cs := [str [79, 75]]) tf_lay151 (.inl rfl) rfl rfl rfl ?_
  refine AtL.insert (Q := kyI) (tv := rsV) (a := 200) (v := [79, 75]) (H' := [(b1, mapO kyI rsV (REASONS.take 1))] :: H) 0 0 Tryz.underlying152 Tryz.underlying3 rfl (.inl rfl) rfl rfl (by first | decide | rfl) rfl rfl rfl rfl ?_
  refine AtL.build (cs := [str [66, 97, 100, 32, 82, 101, 113, 117, 101, 115, 116]]) tf_lay151 (.inl rfl) rfl rfl rfl ?_
  refine AtL.insert (Q := kyI) (tv := rsV) (a := 400) (v := [66, 97, 100, 32, 82, 101, 113, 117, 101, 115, 116]) (H' := [(b1, mapO kyI rsV (REASONS.take 2))] :: H) 0 0 Tryz.underlying152 Tryz.underlying3 rfl (.inl rfl) rfl rfl (by first | decide | rfl) rfl rfl rfl rfl ?_
  refine AtL.build (cs := [str [78, 111, 116, 32, 70, 111, 117, 110, 100]]) tf_lay151 (.inl rfl) rfl rfl rfl ?_
  refine AtL.insert (Q := kyI) (tv := rsV) (a := 404) (v := [78, 111, 116, 32, 70, 111, 117, 110, 100]) (H' := [(b1, mapO kyI rsV (REASONS.take 3))] :: H) 0 0 Tryz.underlying152 Tryz.underlying3 rfl (.inl rfl) rfl rfl (by first | decide | rfl) rfl rfl rfl rfl ?_
  refine AtL.build (cs := [str [77, 101, 116, 104, 111, 100, 32, 78, 111, 116, 32, 65, 108, 108, 111, 119, 101, 100]]) tf_lay151 (.inl rfl) rfl rfl rfl ?_
  refine AtL.insert (Q := kyI) (tv := rsV) (a := 405) (v := [77, 101, 116, 104, 111, 100, 32, 78, 111, 116, 32, 65, 108, 108, 111, 119, 101, 100]) (H' := [(b1, mapO kyI rsV (REASONS.take 4))] :: H) 0 0 Tryz.underlying152 Tryz.underlying3 rfl (.inl rfl) rfl rfl (by first | decide | rfl) rfl rfl rfl rfl ?_
  refine AtL.build (cs := [str [76, 101, 110, 103, 116, 104, 32, 82, 101, 113, 117, 105, 114, 101, 100]]) tf_lay151 (.inl rfl) rfl rfl rfl ?_
  refine AtL.insert (Q := kyI) (tv := rsV) (a := 411) (v := [76, 101, 110, 103, 116, 104, 32, 82, 101, 113, 117, 105, 114, 101, 100]) (H' := [(b1, mapO kyI rsV (REASONS.take 5))] :: H) 0 0 Tryz.underlying152 Tryz.underlying3 rfl (.inl rfl) rfl rfl (by first | decide | rfl) rfl rfl rfl rfl ?_
  refine AtL.build (cs := [str [67, 111, 110, 116, 101, 110, 116, 32, 84, 111, 111, 32, 76, 97, 114, 103, 101]]) tf_lay151 (.inl rfl) rfl rfl rfl ?_
  refine AtL.insert (Q := kyI) (tv := rsV) (a := 413) (v := [67, 111, 110, 116, 101, 110, 116, 32, 84, 111, 111, 32, 76, 97, 114, 103, 101]) (H' := [(b1, mapO kyI rsV (REASONS.take 6))] :: H) 0 0 Tryz.underlying152 Tryz.underlying3 rfl (.inl rfl) rfl rfl (by first | decide | rfl) rfl rfl rfl rfl ?_
  refine AtL.build (cs := [str [85, 82, 73, 32, 84, 111, 111, 32, 76, 111, 110, 103]]) tf_lay151 (.inl rfl) rfl rfl rfl ?_
  refine AtL.insert (Q := kyI) (tv := rsV) (a := 414) (v := [85, 82, 73, 32, 84, 111, 111, 32, 76, 111, 110, 103]) (H' := [(b1, mapO kyI rsV (REASONS.take 7))] :: H) 0 0 Tryz.underlying152 Tryz.underlying3 rfl (.inl rfl) rfl rfl (by first | decide | rfl) rfl rfl rfl rfl ?_
  refine AtL.build (cs := [str [85, 110, 115, 117, 112, 112, 111, 114, 116, 101, 100, 32, 77, 101, 100, 105, 97, 32, 84, 121, 112, 101]]) tf_lay151 (.inl rfl) rfl rfl rfl ?_
  refine AtL.insert (Q := kyI) (tv := rsV) (a := 415) (v := [85, 110, 115, 117, 112, 112, 111, 114, 116, 101, 100, 32, 77, 101, 100, 105, 97, 32, 84, 121, 112, 101]) (H' := [(b1, mapO kyI rsV (REASONS.take 8))] :: H) 0 0 Tryz.underlying152 Tryz.underlying3 rfl (.inl rfl) rfl rfl (by first | decide | rfl) rfl rfl rfl rfl ?_
  refine AtL.build (cs := [str [69, 120, 112, 101, 99, 116, 97, 116, 105, 111, 110, 32, 70, 97, 105, 108, 101, 100]]) tf_lay151 (.inl rfl) rfl rfl rfl ?_
  refine AtL.insert (Q := kyI) (tv := rsV) (a := 417) (v := [69, 120, 112, 101, 99, 116, 97, 116, 105, 111, 110, 32, 70, 97, 105, 108, 101, 100]) (H' := [(b1, mapO kyI rsV (REASONS.take 9))] :: H) 0 0 Tryz.underlying152 Tryz.underlying3 rfl (.inl rfl) rfl rfl (by first | decide | rfl) rfl rfl rfl rfl ?_
  refine AtL.build (cs := [str [84, 111, 111, 32, 77, 97, 110, 121, 32, 82, 101, 113, 117, 101, 115, 116, 115]]) tf_lay151 (.inl rfl) rfl rfl rfl ?_
  refine AtL.insert (Q := kyI) (tv := rsV) (a := 429) (v := [84, 111, 111, 32, 77, 97, 110, 121, 32, 82, 101, 113, 117, 101, 115, 116, 115]) (H' := [(b1, mapO kyI rsV (REASONS.take 10))] :: H) 0 0 Tryz.underlying152 Tryz.underlying3 rfl (.inl rfl) rfl rfl (by first | decide | rfl) rfl rfl rfl rfl ?_
  refine AtL.build (cs := [str [82, 101, 113, 117, 101, 115, 116, 32, 72, 101, 97, 100, 101, 114, 32, 70, 105, 101, 108, 100, 115, 32, 84, 111, 111, 32, 76, 97, 114, 103, 101]]) tf_lay151 (.inl rfl) rfl rfl rfl ?_
  refine AtL.insert (Q := kyI) (tv := rsV) (a := 431) (v := [82, 101, 113, 117, 101, 115, 116, 32, 72, 101, 97, 100, 101, 114, 32, 70, 105, 101, 108, 100, 115, 32, 84, 111, 111, 32, 76, 97, 114, 103, 101]) (H' := [(b1, mapO kyI rsV (REASONS.take 11))] :: H) 0 0 Tryz.underlying152 Tryz.underlying3 rfl (.inl rfl) rfl rfl (by first | decide | rfl) rfl rfl rfl rfl ?_
  refine AtL.build (cs := [str [78, 111, 116, 32, 73, 109, 112, 108, 101, 109, 101, 110, 116, 101, 100]]) tf_lay151 (.inl rfl) rfl rfl rfl ?_
  refine AtL.insert (Q := kyI) (tv := rsV) (a := 501) (v := [78, 111, 116, 32, 73, 109, 112, 108, 101, 109, 101, 110, 116, 101, 100]) (H' := [(b1, mapO kyI rsV (REASONS.take 12))] :: H) 0 0 Tryz.underlying152 Tryz.underlying3 rfl (.inl rfl) rfl rfl (by first | decide | rfl) rfl rfl rfl rfl ?_
  refine AtL.build (cs := [str [83, 101, 114, 118, 105, 99, 101, 32, 85, 110, 97, 118, 97, 105, 108, 97, 98, 108, 101]]) tf_lay151 (.inl rfl) rfl rfl rfl ?_
  refine AtL.insert (Q := kyI) (tv := rsV) (a := 503) (v := [83, 101, 114, 118, 105, 99, 101, 32, 85, 110, 97, 118, 97, 105, 108, 97, 98, 108, 101]) (H' := [(b1, mapO kyI rsV (REASONS.take 13))] :: H) 0 0 Tryz.underlying152 Tryz.underlying3 rfl (.inl rfl) rfl rfl (by first | decide | rfl) rfl rfl rfl rfl ?_
  refine AtL.build (cs := [str [72, 84, 84, 80, 32, 86, 101, 114, 115, 105, 111, 110, 32, 78, 111, 116, 32, 83, 117, 112, 112, 111, 114, 116, 101, 100]]) tf_lay151 (.inl rfl) rfl rfl rfl ?_
  refine AtL.insert (Q := kyI) (tv := rsV) (a := 505) (v := [72, 84, 84, 80, 32, 86, 101, 114, 115, 105, 111, 110, 32, 78, 111, 116, 32, 83, 117, 112, 112, 111, 114, 116, 101, 100]) (H' := [(b1, mapO kyI rsV (REASONS.take 14))] :: H) 0 0 Tryz.underlying152 Tryz.underlying3 rfl (.inl rfl) rfl rfl (by first | decide | rfl) rfl rfl rfl rfl ?_
  refine AtL.move (.inl rfl) rfl rfl ?_
  refine AtL.move (.inl rfl) rfl rfl ?_
  refine AtL.lookup (Q := kyI) (tv := rsV) (a := st) (v := .agg #[str ((atK st (REASONS.take 14)).getD [])]) 0 0 Tryz.underlying152 Tryz.underlying3 rfl tf_zero151 (.inl rfl) rfl rfl rfl rfl rfl (rs_get _) ?_
  refine AtL.field (v := str ((atK st (REASONS.take 14)).getD [])) (.inl rfl) rfl rfl rfl ?_
  refine AtL.assign (.inl rfl) rfl rfl ?_
  refine AtL.done ?_
  refine At.pick (H' := H) [] 1 rfl rfl ?_
  exact At.ret Tryz.func65 rfl rfl (⟨rfl, rfl⟩)

set_option maxHeartbeats 400000 in
theorem rreason_ok {w0 : World} {base : Nat} {H : List Seg} (st : Int) :
    SCalls Tryz.prog 68 [.int .i64 st] w0 base (H) (fun v H' => v = str (reasonF st) ∧ H' = H) := by
  refine SCalls.of_walk (n := 32) Tryz.func68 rfl rfl rfl fun cs => ?_
  refine At.seq ?_
  refine At.region ?_
  refine AtL.assign (.inl rfl) rfl rfl ?_
  refine AtL.done ?_
  refine At.seq ?_
  refine At.seq ?_
  refine At.region ?_
  refine AtL.move (.inl rfl) rfl rfl ?_
  refine AtL.done ?_
  refine At.block ?_
  refine At.seq ?_
  refine At.region ?_
  refine AtL.eqi (.inl rfl) rfl rfl rfl ?_
  refine AtL.assign (.inl rfl) rfl rfl ?_
  refine AtL.done ?_
  refine At.cond rfl ?_ ?_
  · intro hc1
    have hc1 : (st : Int) = 200 := of_decide_eq_true hc1
    subst hc1
    refine At.seq ?_
    refine At.region ?_
    refine AtL.assign (.inl rfl) rfl rfl ?_
    refine AtL.done ?_
    exact At.ret Tryz.func68 rfl rfl (⟨congrArg str (by decide), rfl⟩)
  · intro hc1
    have hc1 : ¬ ((st : Int) = 200) := of_decide_eq_false hc1
    refine At.seq ?_
    refine At.region ?_
    refine AtL.eqi (.inl rfl) rfl rfl rfl ?_
    refine AtL.assign (.inl rfl) rfl rfl ?_
    refine AtL.done ?_
    refine At.cond rfl ?_ ?_
    · intro hc2
      have hc2 : (st : Int) = 400 := of_decide_eq_true hc2
      subst hc2
      refine At.seq ?_
      refine At.region ?_
      refine AtL.assign (.inl rfl) rfl rfl ?_
      refine AtL.done ?_
      exact At.ret Tryz.func68 rfl rfl (⟨congrArg str (by decide), rfl⟩)
    · intro hc2
      have hc2 : ¬ ((st : Int) = 400) := of_decide_eq_false hc2
      refine At.seq ?_
      refine At.region ?_
      refine AtL.eqi (.inl rfl) rfl rfl rfl ?_
      refine AtL.assign (.inl rfl) rfl rfl ?_
      refine AtL.done ?_
      refine At.cond rfl ?_ ?_
      · intro hc3
        have hc3 : (st : Int) = 404 := of_decide_eq_true hc3
        subst hc3
        refine At.seq ?_
        refine At.region ?_
        refine AtL.assign (.inl rfl) rfl rfl ?_
        refine AtL.done ?_
        exact At.ret Tryz.func68 rfl rfl (⟨congrArg str (by decide), rfl⟩)
      · intro hc3
        have hc3 : ¬ ((st : Int) = 404) := of_decide_eq_false hc3
        refine At.seq ?_
        refine At.region ?_
        refine AtL.eqi (.inl rfl) rfl rfl rfl ?_
        refine AtL.assign (.inl rfl) rfl rfl ?_
        refine AtL.done ?_
        refine At.cond rfl ?_ ?_
        · intro hc4
          have hc4 : (st : Int) = 405 := of_decide_eq_true hc4
          subst hc4
          refine At.seq ?_
          refine At.region ?_
          refine AtL.assign (.inl rfl) rfl rfl ?_
          refine AtL.done ?_
          exact At.ret Tryz.func68 rfl rfl (⟨congrArg str (by decide), rfl⟩)
        · intro hc4
          have hc4 : ¬ ((st : Int) = 405) := of_decide_eq_false hc4
          refine At.seq ?_
          refine At.region ?_
          refine AtL.eqi (.inl rfl) rfl rfl rfl ?_
          refine AtL.assign (.inl rfl) rfl rfl ?_
          refine AtL.done ?_
          refine At.cond rfl ?_ ?_
          · intro hc5
            have hc5 : (st : Int) = 411 := of_decide_eq_true hc5
            subst hc5
            refine At.seq ?_
            refine At.region ?_
            refine AtL.assign (.inl rfl) rfl rfl ?_
            refine AtL.done ?_
            exact At.ret Tryz.func68 rfl rfl (⟨congrArg str (by decide), rfl⟩)
          · intro hc5
            have hc5 : ¬ ((st : Int) = 411) := of_decide_eq_false hc5
            refine At.seq ?_
            refine At.region ?_
            refine AtL.eqi (.inl rfl) rfl rfl rfl ?_
            refine AtL.assign (.inl rfl) rfl rfl ?_
            refine AtL.done ?_
            refine At.cond rfl ?_ ?_
            · intro hc6
              have hc6 : (st : Int) = 413 := of_decide_eq_true hc6
              subst hc6
              refine At.seq ?_
              refine At.region ?_
              refine AtL.assign (.inl rfl) rfl rfl ?_
              refine AtL.done ?_
              exact At.ret Tryz.func68 rfl rfl (⟨congrArg str (by decide), rfl⟩)
            · intro hc6
              have hc6 : ¬ ((st : Int) = 413) := of_decide_eq_false hc6
              refine At.seq ?_
              refine At.region ?_
              refine AtL.eqi (.inl rfl) rfl rfl rfl ?_
              refine AtL.assign (.inl rfl) rfl rfl ?_
              refine AtL.done ?_
              refine At.cond rfl ?_ ?_
              · intro hc7
                have hc7 : (st : Int) = 414 := of_decide_eq_true hc7
                subst hc7
                refine At.seq ?_
                refine At.region ?_
                refine AtL.assign (.inl rfl) rfl rfl ?_
                refine AtL.done ?_
                exact At.ret Tryz.func68 rfl rfl (⟨congrArg str (by decide), rfl⟩)
              · intro hc7
                have hc7 : ¬ ((st : Int) = 414) := of_decide_eq_false hc7
                refine At.seq ?_
                refine At.region ?_
                refine AtL.eqi (.inl rfl) rfl rfl rfl ?_
                refine AtL.assign (.inl rfl) rfl rfl ?_
                refine AtL.done ?_
                refine At.cond rfl ?_ ?_
                · intro hc8
                  have hc8 : (st : Int) = 415 := of_decide_eq_true hc8
                  subst hc8
                  refine At.seq ?_
                  refine At.region ?_
                  refine AtL.assign (.inl rfl) rfl rfl ?_
                  refine AtL.done ?_
                  exact At.ret Tryz.func68 rfl rfl (⟨congrArg str (by decide), rfl⟩)
                · intro hc8
                  have hc8 : ¬ ((st : Int) = 415) := of_decide_eq_false hc8
                  refine At.seq ?_
                  refine At.region ?_
                  refine AtL.eqi (.inl rfl) rfl rfl rfl ?_
                  refine AtL.assign (.inl rfl) rfl rfl ?_
                  refine AtL.done ?_
                  refine At.cond rfl ?_ ?_
                  · intro hc9
                    have hc9 : (st : Int) = 417 := of_decide_eq_true hc9
                    subst hc9
                    refine At.seq ?_
                    refine At.region ?_
                    refine AtL.assign (.inl rfl) rfl rfl ?_
                    refine AtL.done ?_
                    exact At.ret Tryz.func68 rfl rfl (⟨congrArg str (by decide), rfl⟩)
                  · intro hc9
                    have hc9 : ¬ ((st : Int) = 417) := of_decide_eq_false hc9
                    refine At.seq ?_
                    refine At.region ?_
                    refine AtL.eqi (.inl rfl) rfl rfl rfl ?_
                    refine AtL.assign (.inl rfl) rfl rfl ?_
                    refine AtL.done ?_
                    refine At.cond rfl ?_ ?_
                    · intro hc10
                      have hc10 : (st : Int) = 429 := of_decide_eq_true hc10
                      subst hc10
                      refine At.seq ?_
                      refine At.region ?_
                      refine AtL.assign (.inl rfl) rfl rfl ?_
                      refine AtL.done ?_
                      exact At.ret Tryz.func68 rfl rfl (⟨congrArg str (by decide), rfl⟩)
                    · intro hc10
                      have hc10 : ¬ ((st : Int) = 429) := of_decide_eq_false hc10
                      refine At.seq ?_
                      refine At.region ?_
                      refine AtL.eqi (.inl rfl) rfl rfl rfl ?_
                      refine AtL.assign (.inl rfl) rfl rfl ?_
                      refine AtL.done ?_
                      refine At.cond rfl ?_ ?_
                      · intro hc11
                        have hc11 : (st : Int) = 431 := of_decide_eq_true hc11
                        subst hc11
                        refine At.seq ?_
                        refine At.region ?_
                        refine AtL.assign (.inl rfl) rfl rfl ?_
                        refine AtL.done ?_
                        exact At.ret Tryz.func68 rfl rfl (⟨congrArg str (by decide), rfl⟩)
                      · intro hc11
                        have hc11 : ¬ ((st : Int) = 431) := of_decide_eq_false hc11
                        refine At.seq ?_
                        refine At.region ?_
                        refine AtL.eqi (.inl rfl) rfl rfl rfl ?_
                        refine AtL.assign (.inl rfl) rfl rfl ?_
                        refine AtL.done ?_
                        refine At.cond rfl ?_ ?_
                        · intro hc12
                          have hc12 : (st : Int) = 501 := of_decide_eq_true hc12
                          subst hc12
                          refine At.seq ?_
                          refine At.region ?_
                          refine AtL.assign (.inl rfl) rfl rfl ?_
                          refine AtL.done ?_
                          exact At.ret Tryz.func68 rfl rfl (⟨congrArg str (by decide), rfl⟩)
                        · intro hc12
                          have hc12 : ¬ ((st : Int) = 501) := of_decide_eq_false hc12
                          refine At.seq ?_
                          refine At.region ?_
                          refine AtL.eqi (.inl rfl) rfl rfl rfl ?_
                          refine AtL.assign (.inl rfl) rfl rfl ?_
                          refine AtL.done ?_
                          refine At.cond rfl ?_ ?_
                          · intro hc13
                            have hc13 : (st : Int) = 503 := of_decide_eq_true hc13
                            subst hc13
                            refine At.seq ?_
                            refine At.region ?_
                            refine AtL.assign (.inl rfl) rfl rfl ?_
                            refine AtL.done ?_
                            exact At.ret Tryz.func68 rfl rfl (⟨congrArg str (by decide), rfl⟩)
                          · intro hc13
                            have hc13 : ¬ ((st : Int) = 503) := of_decide_eq_false hc13
                            refine At.seq ?_
                            refine At.region ?_
                            refine AtL.eqi (.inl rfl) rfl rfl rfl ?_
                            refine AtL.assign (.inl rfl) rfl rfl ?_
                            refine AtL.done ?_
                            refine At.cond rfl ?_ ?_
                            · intro hc14
                              have hc14 : (st : Int) = 505 := of_decide_eq_true hc14
                              subst hc14
                              refine At.seq ?_
                              refine At.region ?_
                              refine AtL.assign (.inl rfl) rfl rfl ?_
                              refine AtL.done ?_
                              exact At.ret Tryz.func68 rfl rfl (⟨congrArg str (by decide), rfl⟩)
                            · intro hc14
                              have hc14 : ¬ ((st : Int) = 505) := of_decide_eq_false hc14
                              refine At.skip ?_
                              refine At.inBlock ?_
                              refine At.seq ?_
                              refine At.region ?_
                              refine AtL.assign (.inl rfl) rfl rfl ?_
                              refine AtL.done ?_
                              exact At.ret Tryz.func68 rfl rfl (⟨congrArg str (by simp [reasonF, REASONS, atK, hc1, hc2, hc3, hc4, hc5, hc6, hc7, hc8, hc9, hc10, hc11, hc12, hc13, hc14]), rfl⟩)

end Go.Proofs.YtlkdmbpbjhjkfaaGreatDoor
