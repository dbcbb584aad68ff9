/- Lists of messages; the plain law of frames. -/
import Derived.Test.YtllfgcekebafhaaDoorF4
namespace Go.Proofs.YtllfgcekebafhaaDoor
set_option linter.unusedVariables false
set_option linter.unusedSimpArgs false
set_option maxRecDepth 100000

theorem getD_left {a b : List UInt8} {i : Nat} (h : i < a.length) : (a ++ b).getD i 0 = a.getD i 0 := by
  simp [List.getD, List.getElem?_append_left h]
theorem subl_left {a b : List UInt8} {i j : Nat} (h : j ≤ a.length) : subl (a ++ b) i j = subl a i j := by
  unfold subl
  by_cases hi : i ≤ a.length
  · rw [List.drop_append_of_le_length hi, List.take_append_of_le_length (by simp; omega)]
  · have : j - i = 0 := by omega
    simp [this]

/-- Bytes in pieces. -/
def cutF : List UInt8 → List Int → List (List UInt8)
  | b, [] => [b]
  | b, c :: cs => if b = [] then [b] else b.take (pick c (b.length + 1)).toNat :: cutF (b.drop (pick c (b.length + 1)).toNat) cs
theorem cutF_flat (b : List UInt8) (cs : List Int) : (cutF b cs).flatten = b := by
  induction cs generalizing b with
  | nil => simp [cutF]
  | cons c cs ih =>
    unfold cutF
    split
    · simp
    · rw [List.flatten_cons, ih, List.take_append_drop]
theorem cutF_stop {b : List UInt8} {cs : List Int} {i : Nat} (h : cs.length ≤ i ∨ b.length = 0) : cutF b (cs.drop i) = [b] := by
  rcases h with h | h
  · rw [List.drop_eq_nil_of_le h]; rfl
  · have := List.eq_nil_of_length_eq_zero h
    subst this
    cases hc : cs.drop i with
    | nil => rfl
    | cons c cs => simp [cutF]
theorem cutF_go {b : List UInt8} {cs : List Int} {i : Nat} (h : i < cs.length) (h2 : 0 < b.length) :
    cutF b (cs.drop i) = b.take (pick (cs.getD i 0) (b.length + 1)).toNat :: cutF (b.drop (pick (cs.getD i 0) (b.length + 1)).toNat) (cs.drop (i + 1)) := by
  have h3 : cs.drop i = cs.getD i 0 :: cs.drop (i + 1) := by rw [List.drop_eq_getElem_cons h]; simp [List.getD, h]
  rw [h3, cutF, if_neg (by intro e; subst e; simp at h2)]
theorem pick_bd {x : Int} {n : Nat} : 0 ≤ pick x (n + 1) ∧ pick x (n + 1) ≤ n := by
  rw [pick, if_neg (by omega)]
  have := Int.emod_nonneg x (show ((n : Int) + 1) ≠ 0 by omega)
  have := Int.emod_lt_of_pos x (show (0 : Int) < (n : Int) + 1 by omega)
  omega

theorem szF_app {a b : List UInt8} (h : 2 ≤ a.length) : szF (a ++ b) = szF a := by
  unfold szF
  rw [getD_left (by omega), getD_left (by omega)]
theorem frS_app {m : Int} {a b : List UInt8} (h : (frS m a).n ≠ 0 ∨ (frS m a).e ≠ 0) : frS m (a ++ b) = frS m a := by
  have hl : (a ++ b).length = a.length + b.length := List.length_append
  by_cases h2 : a.length < 2
  · rw [frS, if_pos h2] at h; simp at h
  · have hz := szF_app (a := a) (b := b) (by omega)
    rw [frS, if_neg (by omega), hz]
    conv => rhs; rw [frS, if_neg h2]
    rw [frS, if_neg h2] at h
    split
    · rfl
    split
    · rfl
    rename_i h3 h4
    rw [if_neg h3, if_neg h4] at h
    by_cases h5 : a.length < szF a + 2
    · rw [if_pos h5] at h; simp at h
    · rw [if_neg (by omega), if_neg h5]
theorem frF_app (m : Int) (a b : List UInt8) : frF m (a ++ b) = if (frF m a).e ≠ 0 then frF m a else ⟨(frF m a).out ++ (frF m ((frF m a).rest ++ b)).out, (frF m ((frF m a).rest ++ b)).e, (frF m ((frF m a).rest ++ b)).rest⟩ := by
  induction a using (measure List.length).wf.induction with
  | _ a ih =>
    by_cases he : (frS m a).e = 0
    · by_cases hn : (frS m a).n = 0
      · rw [frF_none he hn, if_neg (by simp)]; simp
      · have h1 := frS_n m a hn
        have hA := frS_app (b := b) (.inl hn)
        have hd : (a ++ b).drop (2 + (frS m a).n) = a.drop (2 + (frS m a).n) ++ b := List.drop_append_of_le_length (by omega)
        rw [frF_more (c := a ++ b) (by rw [hA]; exact hn), hA, hd, ih _ (show (List.drop _ _).length < _ by simp; omega), frF_more hn, subl_left (by omega)]
        dsimp only
        split <;> simp
    · have hA := frS_app (b := b) (.inr he)
      rw [frF_err (c := a ++ b) (by rw [hA]; exact he), hA, frF_err he, if_pos he]
theorem frF_keep {m : Int} (hm : 0 ≤ m) (c : List UInt8) : ((frF m c).rest.length : Int) ≤ m + 1 ∧ (frF m c).rest.length ≤ c.length ∧ (frF m c).out.length ≤ c.length := by
  induction c using (measure List.length).wf.induction with
  | _ c ih =>
    by_cases he : (frS m c).e = 0
    · by_cases hn : (frS m c).n = 0
      · rw [frF_none he hn]
        refine ⟨?_, Nat.le_refl _, by simp⟩
        show (c.length : Int) ≤ m + 1
        revert he hn
        unfold frS
        repeat' split
        all_goals simp
        all_goals omega
      · have h1 := frS_n m c hn
        rw [frF_more hn]
        have := ih _ (show (List.drop (2 + (frS m c).n) c).length < _ by simp; omega)
        simp only [List.length_drop, List.length_cons] at this ⊢
        omega
    · rw [frF_err he]; simp; omega
theorem fr_step (m : Int) (ps : List (List UInt8)) (i : Nat) (hi : i < ps.length) (he : (frF m (ps.take i).flatten).e = 0) :
    frF m (ps.take (i + 1)).flatten = ⟨(frF m (ps.take i).flatten).out ++ (frF m ((frF m (ps.take i).flatten).rest ++ ps.getD i [])).out, (frF m ((frF m (ps.take i).flatten).rest ++ ps.getD i [])).e, (frF m ((frF m (ps.take i).flatten).rest ++ ps.getD i [])).rest⟩ := by
  have h1 : (ps.take (i + 1)).flatten = (ps.take i).flatten ++ ps.getD i [] := by
    rw [List.take_succ_eq_append_getElem hi, List.flatten_append]
    simp [List.getD, hi]
  rw [h1, frF_app, if_neg (by simp [he])]
theorem fr_stop (m : Int) (ps : List (List UInt8)) (i : Nat) (h : (frF m (ps.take i).flatten).e ≠ 0) : frF m ps.flatten = frF m (ps.take i).flatten := by
  have h1 : ps.flatten = (ps.take i).flatten ++ (ps.drop i).flatten := by rw [← List.flatten_append, List.take_append_drop]
  rw [h1, frF_app, if_pos h]
theorem fr_nil (m : Int) : frF m [] = ⟨[], 0, []⟩ := by
  have h1 : frS m [] = ⟨0, 0⟩ := by rw [frS, if_pos (by decide)]
  rw [frF_none (by rw [h1]) (by rw [h1])]
/-- A frame ahead. -/
theorem frm_ahead {m : Int} {l b : List UInt8} (h : frmE l = 0) : frF m (frmL l ++ b) = if m < (l.length : Int) then ⟨[], 3, []⟩ else ⟨l :: (frF m b).out, (frF m b).e, (frF m b).rest⟩ := by
  have hl := frmE_le l h
  have e : frmL l = [UInt8.ofInt ((l.length : Int) / 256), UInt8.ofInt (l.length : Int)] ++ l := by rw [frmL, if_pos h]
  have hz : szF (frmL l ++ b) = l.length := by
    rw [szF, e]
    show 256 * (UInt8.ofInt ((l.length : Int) / 256)).toNat + (UInt8.ofInt (l.length : Int)).toNat = _
    rw [ofInt_toNat, ofInt_toNat]; omega
  have hln : (frmL l ++ b).length = l.length + 2 + b.length := by rw [e]; simp; omega
  have hx : subl (frmL l ++ b) 2 (2 + l.length) = l := by rw [e]; simp [subl]
  have hd : (frmL l ++ b).drop (2 + l.length) = b := by
    rw [show 2 + l.length = (frmL l).length from by rw [e]; simp; omega]; exact List.drop_left
  by_cases hm : m < (l.length : Int)
  · have hS : frS m (frmL l ++ b) = ⟨3, 0⟩ := by rw [frS, if_neg (by omega), hz, if_neg (by omega), if_pos hm]
    rw [frF_err (by rw [hS]; decide), hS, if_pos hm]
  · have hS : frS m (frmL l ++ b) = ⟨0, l.length⟩ := by rw [frS, if_neg (by omega), hz, if_neg (by omega), if_neg hm, if_neg (by omega)]
    rw [frF_more (by rw [hS]; dsimp only; omega), hS, if_neg hm]
    dsimp only
    rw [hx, hd]

theorem flat_take_le (ps : List (List UInt8)) (i : Nat) : (ps.take i).flatten.length ≤ ps.flatten.length := by
  have h1 : ps.flatten = (ps.take i).flatten ++ (ps.drop i).flatten := by rw [← List.flatten_append, List.take_append_drop]
  rw [h1, List.length_append]; omega
theorem flat_getD_le (ps : List (List UInt8)) (i : Nat) : (ps.getD i []).length ≤ ps.flatten.length := by
  by_cases h : i < ps.length
  · have h1 : ps = ps.take i ++ ps.getD i [] :: ps.drop (i + 1) := by
      have : ps.getD i [] = ps[i] := by simp [List.getD, h]
      rw [this, ← List.drop_eq_getElem_cons h, List.take_append_drop]
    have h2 : ps.flatten.length = (ps.take i).flatten.length + ((ps.getD i []).length + (ps.drop (i + 1)).flatten.length) := by
      conv => lhs; rw [h1]
      simp
    omega
  · simp [List.getD, h]

theorem cutF_len (b : List UInt8) (cs : List Int) : (cutF b cs).length ≤ cs.length + 1 := by
  induction cs generalizing b with
  | nil => simp [cutF]
  | cons c cs ih =>
    unfold cutF
    split
    · simp
    · have := ih (b.drop (pick c (b.length + 1)).toNat)
      simp; omega
theorem cut_facts {x : List Bs} {l : List UInt8} {ns : List Int} (h : x.map (·.l) = cutF l ns) : (x.map (·.l)).flatten = l ∧ x.length ≤ ns.length + 1 := by
  have h1 := cutF_len l ns
  rw [← h] at h1
  exact ⟨by rw [h, cutF_flat], by simpa using h1⟩

set_option maxHeartbeats 400000 in
theorem push_nil {w0 : World} {base : Nat} {H : List Seg} {A : Option Addr} {C : Nat} {l : List UInt8} :
    SCalls Tryd.prog 23 [.pointer none, .slice A l.length C] w0 base (H) (fun v H' => v = .tuple #[.slice none 0 0, int 1] ∧ H' = H) := by
  refine SCalls.of_walk (n := 45) Tryd.func23 rfl rfl rfl fun cs => ?_
  refine At.seq ?_
  refine At.region ?_
  refine AtL.assign (.inl rfl) rfl rfl ?_
  refine AtL.assign (.inl rfl) rfl rfl ?_
  refine AtL.done ?_
  refine At.seq ?_
  refine At.block ?_
  refine At.seq ?_
  refine At.region ?_
  refine AtL.move (.inl rfl) rfl rfl ?_
  refine AtL.call tf_body31 (.inl rfl) rfl rfl none_nil ?_
  rintro _ _ ⟨rfl, hHq⟩
  obtain rfl := hHq.symm
  refine AtL.assign (.inl rfl) rfl rfl ?_
  refine AtL.done ?_
  refine At.condT rfl ?_
  refine At.seq ?_
  refine At.region ?_
  refine AtL.assign (.inl rfl) rfl rfl ?_
  refine AtL.assign (.inl rfl) rfl rfl ?_
  refine AtL.done ?_
  exact At.ret Tryd.func23 rfl rfl (⟨rfl, rfl⟩)

set_option maxHeartbeats 400000 in
theorem push_zero {w0 : World} {base : Nat} {H : List Seg} {b : Nat} {A : Option Addr} {C : Nat} {l : List UInt8} :
    SCalls Tryd.prog 23 [.pointer (some ⟨b, 0, none⟩), .slice A l.length C] w0 base ([(b, .cells #[.int .i64 0, .bool false, .slice none 0 0, .int .i64 0, .int .i8 0, .int .i64 0] 56 (0, 0))] :: H) (fun v H' => v = .tuple #[.slice none 0 0, int 1] ∧ H' = [(b, .cells #[.int .i64 0, .bool false, .slice none 0 0, .int .i64 0, .int .i8 0, .int .i64 0] 56 (0, 0))] :: H) := by
  refine SCalls.of_walk (n := 45) Tryd.func23 rfl rfl rfl fun cs => ?_
  refine At.seq ?_
  refine At.region ?_
  refine AtL.assign (.inl rfl) rfl rfl ?_
  refine AtL.assign (.inl rfl) rfl rfl ?_
  refine AtL.done ?_
  refine At.seq ?_
  refine At.block ?_
  refine At.seq ?_
  refine At.region ?_
  refine AtL.move (.inl rfl) rfl rfl ?_
  refine AtL.call tf_body31 (.inl rfl) rfl rfl none_zero ?_
  rintro _ _ ⟨rfl, rfl⟩
  refine AtL.assign (.inl rfl) rfl rfl ?_
  refine AtL.done ?_
  refine At.condT rfl ?_
  refine At.seq ?_
  refine At.region ?_
  refine AtL.assign (.inl rfl) rfl rfl ?_
  refine AtL.assign (.inl rfl) rfl rfl ?_
  refine AtL.done ?_
  exact At.ret Tryd.func23 rfl rfl (⟨rfl, rfl⟩)

/-- Lists that are alike in their first elements. -/
theorem same_stop {a b : List Bs} (hl : a.length = b.length) (hj : ∀ j, j < a.length → (a.getD j ⟨none, 0, []⟩).l = (b.getD j ⟨none, 0, []⟩).l) : a.map (·.l) = b.map (·.l) := by
  apply List.ext_getElem (by simpa using hl)
  intro i h1 h2
  have h3 : i < a.length := by simpa using h1
  have := hj i h3
  simp only [List.getElem_map]
  simpa [List.getD, h3, show i < b.length by omega] using this
theorem same_get {a b : List Bs} (h : a.map (·.l) = b.map (·.l)) (i : Nat) : (a.getD i ⟨none, 0, []⟩).l = (b.getD i ⟨none, 0, []⟩).l := by
  have h1 : (a.map (·.l))[i]? = (b.map (·.l))[i]? := by rw [h]
  simp only [List.getElem?_map] at h1
  simp only [List.getD]
  cases ha : a[i]? <;> cases hb : b[i]? <;> rw [ha, hb] at h1 <;> simp_all

set_option maxHeartbeats 400000 in
theorem slists_ok {w0 : World} {base : Nat} {H : List Seg} {A A2 : Option Addr} {C C2 : Nat} {a b : List Bs} (h : Rd tyL w0 base H A C a) (he : ∀ x ∈ a, Rd tyB w0 base H x.A x.C x.l) (h2 : Rd tyL w0 base H A2 C2 b) (he2 : ∀ x ∈ b, Rd tyB w0 base H x.A x.C x.l) :
    SCalls Tryd.prog 18 [.slice A a.length C, .slice A2 b.length C2] w0 base (H) (fun v H' => v = .bool (decide (a.map (·.l) = b.map (·.l))) ∧ H' = H) := by
  have hle1 := h.le
  have hcap1 := h.cap
  have hle2 := h2.le
  have hcap2 := h2.cap
  refine SCalls.of_walk (n := 27) Tryd.func18 rfl rfl rfl fun cs => ?_
  refine At.seq ?_
  refine At.region ?_
  refine AtL.assign (.inl rfl) rfl rfl ?_
  refine AtL.done ?_
  refine At.seq ?_
  refine At.seq ?_
  refine At.region ?_
  refine AtL.move (.inl rfl) rfl rfl ?_
  refine AtL.lenL Tryd.underlying31 (.inl rfl) rfl rfl ?_
  refine AtL.move (.inl rfl) rfl rfl ?_
  refine AtL.lenL Tryd.underlying31 (.inl rfl) rfl rfl ?_
  refine AtL.nei (.inl rfl) rfl rfl rfl ?_
  refine AtL.done ?_
  refine At.cond rfl ?_ ?_
  · intro hc1
    have hc1 : ¬ ((a.length : Int) = (b.length : Int)) := of_decide_eq_false (bnot_true hc1)
    refine At.seq ?_
    refine At.region ?_
    refine AtL.assign (.inl rfl) rfl rfl ?_
    refine AtL.done ?_
    exact At.ret Tryd.func18 rfl rfl (⟨congrArg Value.bool (decide_eq_false (fun h9 => by have := congrArg List.length h9; simp at this; omega)).symm, rfl⟩)
  · intro hc1
    have hc1 : (a.length : Int) = (b.length : Int) := of_decide_eq_true (bnot_false hc1)
    refine At.skip ?_
    refine At.seq ?_
    refine At.seq ?_
    refine At.region ?_
    refine AtL.assign (.inl rfl) rfl rfl ?_
    refine AtL.done ?_
    refine At.block ?_
    refine At.loop (fun (i : Nat) => [(0, .slice A a.length C), (1, .slice A2 b.length C2), (5, .int .i64 (i : Int))]) (fun (i : Nat) => H) (fun (i : Nat) => i ≤ a.length ∧ ∀ j, j < i → (a.getD j ⟨none, 0, []⟩).l = (b.getD j ⟨none, 0, []⟩).l) (fun (i : Nat) => a.length - i) 0 (⟨Nat.zero_le _, fun j hj => absurd hj (by omega)⟩) ⟨rfl, rfl, rfl, trivial⟩ rfl ?_
    rintro i ⟨hi, hj⟩ ihL1
    refine At.seq ?_
    refine At.seq ?_
    refine At.region ?_
    refine AtL.move (.inl rfl) rfl rfl ?_
    refine AtL.move (.inl rfl) rfl rfl ?_
    refine AtL.lenL Tryd.underlying31 (.inl rfl) rfl rfl ?_
    refine AtL.lss (.inl rfl) rfl rfl rfl ?_
    refine AtL.done ?_
    refine At.cond rfl ?_ ?_
    · intro hc2
      have hc2 : (i : Int) < (a.length : Int) := of_decide_eq_true hc2
      refine At.skip ?_
      refine At.seq ?_
      refine At.block ?_
      refine At.seq ?_
      refine At.draw (es := []) (pv := [(0, .slice A a.length C), (1, .int .i64 (i : Int)), (2, .pointer (some (eaddr A (i * tyL.sz)))), (3, .slice ((a.getD i (⟨none, 0, []⟩ : Bs)).A) ((a.getD i (⟨none, 0, []⟩ : Bs)).l).length ((a.getD i (⟨none, 0, []⟩ : Bs)).C)), (4, .slice A2 b.length C2), (5, .int .i64 (i : Int)), (6, .pointer (some (eaddr A2 (i * tyL.sz)))), (7, .slice ((b.getD i (⟨none, 0, []⟩ : Bs)).A) ((b.getD i (⟨none, 0, []⟩ : Bs)).l).length ((b.getD i (⟨none, 0, []⟩ : Bs)).C)), (8, .bool (decide ((a.getD i (⟨none, 0, []⟩ : Bs)).l = (b.getD i (⟨none, 0, []⟩ : Bs)).l))), (9, .bool (!(decide ((a.getD i (⟨none, 0, []⟩ : Bs)).l = (b.getD i (⟨none, 0, []⟩ : Bs)).l))))]) tf_mixed (by kernel_rfl) (by kernel_rfl) (by kernel_rfl) ?_
      refine ⟨⟨.inr ⟨_, rfl, rfl, .inl ⟨rfl, Do.move rfl⟩⟩, .inr ⟨_, rfl, rfl, .inl ⟨rfl, Do.move rfl⟩⟩, .inr ⟨_, rfl, rfl, .inl ⟨rfl, Do.indexL i h Tryd.underlying31 tf_sz22 rfl rfl rfl (by omega)⟩⟩, .inr ⟨_, rfl, rfl, .inl ⟨rfl, Do.load (v := .slice ((a.getD i (⟨none, 0, []⟩ : Bs)).A) ((a.getD i (⟨none, 0, []⟩ : Bs)).l).length ((a.getD i (⟨none, 0, []⟩ : Bs)).C)) tf_flat22 rfl (Rd.cell0 h (getD_some (⟨none, 0, []⟩ : Bs) (by omega)) rfl)⟩⟩, .inr ⟨_, rfl, rfl, .inl ⟨rfl, Do.move rfl⟩⟩, .inr ⟨_, rfl, rfl, .inl ⟨rfl, Do.move rfl⟩⟩, .inr ⟨_, rfl, rfl, .inl ⟨rfl, Do.indexL i h2 Tryd.underlying31 tf_sz22 rfl rfl rfl (by omega)⟩⟩, .inr ⟨_, rfl, rfl, .inl ⟨rfl, Do.load (v := .slice ((b.getD i (⟨none, 0, []⟩ : Bs)).A) ((b.getD i (⟨none, 0, []⟩ : Bs)).l).length ((b.getD i (⟨none, 0, []⟩ : Bs)).C)) tf_flat22 rfl (Rd.cell0 h2 (getD_some (⟨none, 0, []⟩ : Bs) (by omega)) rfl)⟩⟩, .inr ⟨_, rfl, rfl, .inl ⟨rfl, Do.call tf_body14 rfl (same_ok (l := (a.getD i (⟨none, 0, []⟩ : Bs)).l) (l2 := (b.getD i (⟨none, 0, []⟩ : Bs)).l) (he _ (getD_mem (l := a) (i := i) (d := (⟨none, 0, []⟩ : Bs)) (by omega))) (he2 _ (getD_mem (l := b) (i := i) (d := (⟨none, 0, []⟩ : Bs)) (by omega))))⟩⟩, .inr ⟨_, rfl, rfl, .inl ⟨rfl, Do.not rfl⟩⟩, trivial⟩, by kernel_rfl, ?_⟩
      refine At.mono (E' := [(0, .slice A a.length C), (1, .slice A2 b.length C2), (5, .int .i64 (i : Int)), (26, .bool (!(decide ((a.getD i (⟨none, 0, []⟩ : Bs)).l = (b.getD i (⟨none, 0, []⟩ : Bs)).l))))]) ⟨rfl, rfl, rfl, rfl, trivial⟩ ?_
      refine At.cond rfl ?_ ?_
      · intro hc3
        have hc3 : ¬ ((a.getD i (⟨none, 0, []⟩ : Bs)).l = (b.getD i (⟨none, 0, []⟩ : Bs)).l) := of_decide_eq_false (bnot_true hc3)
        refine At.seq ?_
        refine At.region ?_
        refine AtL.assign (.inl rfl) rfl rfl ?_
        refine AtL.done ?_
        exact At.ret Tryd.func18 rfl rfl (⟨congrArg Value.bool (decide_eq_false (fun h9 => hc3 (same_get h9 i))).symm, rfl⟩)
      · intro hc3
        have hc3 : (a.getD i (⟨none, 0, []⟩ : Bs)).l = (b.getD i (⟨none, 0, []⟩ : Bs)).l := of_decide_eq_true (bnot_false hc3)
        refine At.skip ?_
        refine At.inBlock ?_
        refine At.region ?_
        refine AtL.move (.inl rfl) rfl rfl ?_
        refine AtL.add (z := (i : Int) + 1) (.inl rfl) rfl rfl rfl (w64 (by omega) (by omega)) ?_
        refine AtL.assign (.inl rfl) rfl rfl ?_
        refine AtL.done ?_
        refine ihL1 (i + 1) (⟨by omega, fun j hj2 => (Nat.lt_succ_iff_lt_or_eq.1 hj2).elim (hj j) (fun h9 => by subst h9; exact hc3)⟩) (by omega) _ ?_
        exact ⟨rfl, rfl, (by first | rfl | exact slLen (by simp []) | exact intEq (by omega) | exact intEq (by simp []) | exact slLen (by simp []; omega)), trivial⟩
    · intro hc2
      have hc2 : ¬ ((i : Int) < (a.length : Int)) := of_decide_eq_false hc2
      refine At.exit rfl ?_
      refine At.seq ?_
      refine At.region ?_
      refine AtL.assign (.inl rfl) rfl rfl ?_
      refine AtL.done ?_
      exact At.ret Tryd.func18 rfl rfl (⟨congrArg Value.bool (decide_eq_true (same_stop (by omega) (fun j h9 => hj j (by omega)))).symm, rfl⟩)

set_option maxHeartbeats 400000 in
theorem long_ok {w0 : World} {base : Nat} {H : List Seg} {A : Option Addr} {C : Nat} {l : List Bs} (h : Rd tyL w0 base H A C l) (hb : ∀ x ∈ l, x.l.length ≤ 140737488351232) (hl : l.length ≤ 140737488351232) :
    SCalls Tryd.prog 19 [.slice A l.length C] w0 base (H) (fun v H' => ∃ z : Bool, (z = false → l.length ≤ 60 ∧ (l.map (·.l)).flatten.length ≤ 70000) ∧ v = .bool z ∧ H' = H) := by
  refine SCalls.of_walk (n := 29) Tryd.func19 rfl rfl rfl fun cs => ?_
  refine At.seq ?_
  refine At.region ?_
  refine AtL.assign (.inl rfl) rfl rfl ?_
  refine AtL.done ?_
  refine At.seq ?_
  refine At.region ?_
  refine AtL.assign (.inl rfl) rfl rfl ?_
  refine AtL.done ?_
  refine At.seq ?_
  refine At.seq ?_
  refine At.region ?_
  refine AtL.assign (.inl rfl) rfl rfl ?_
  refine AtL.done ?_
  refine At.block ?_
  refine At.loop2 (fun (i : Nat) (n : Nat) => [(0, .slice A l.length C), (3, .int .i64 (n : Int)), (4, .int .i64 (i : Int))]) (fun (i : Nat) (n : Nat) => H) (fun (i : Nat) (n : Nat) => i ≤ l.length ∧ n ≤ 140737488951232 ∧ ((l.map (·.l)).take i).flatten.length = n) (fun (i : Nat) (n : Nat) => l.length - i) 0 0 (⟨by omega, by omega, rfl⟩) ⟨rfl, rfl, rfl, trivial⟩ rfl ?_
  rintro i n ⟨hi, hn, hj⟩ ihL1
  refine At.seq ?_
  refine At.seq ?_
  refine At.region ?_
  refine AtL.move (.inl rfl) rfl rfl ?_
  refine AtL.move (.inl rfl) rfl rfl ?_
  refine AtL.lenL Tryd.underlying31 (.inl rfl) rfl rfl ?_
  refine AtL.lss (.inl rfl) rfl rfl rfl ?_
  refine AtL.move (.inl rfl) rfl rfl ?_
  refine AtL.join 3 (E' := [(12, .bool (decide (((i : Int) < (l.length : Int)) ∧ ((n : Int) ≤ 70000)))), (0, .slice A l.length C), (3, .int .i64 (n : Int)), (4, .int .i64 (i : Int))]) (H' := H) (fun J => ?_) ?_
  · refine AtL.split (t := 9) rfl ?_ ?_
    · intro hs9
      have hs9 : (i : Int) < (l.length : Int) := of_decide_eq_true hs9
      refine AtL.move (.inr ⟨_, _, _, rfl, rfl, rfl, rfl⟩) rfl rfl ?_
      refine AtL.leq (.inr ⟨_, _, _, rfl, rfl, rfl, rfl⟩) rfl rfl rfl ?_
      refine AtL.pickT (.inl rfl) rfl rfl rfl ?_
      exact J _ (by exact ⟨(boolIs (by clear J; first | (simp [hs9]; done) | (simp_all; done) | grind)), rfl, rfl, rfl, trivial⟩)
    · intro hs9
      have hs9 : ¬ ((i : Int) < (l.length : Int)) := of_decide_eq_false hs9
      refine AtL.skipped rfl rfl rfl rfl rfl rfl ?_
      refine AtL.skipped rfl rfl rfl rfl rfl rfl ?_
      refine AtL.pickF (.inl rfl) rfl rfl rfl ?_
      exact J _ (by exact ⟨(boolIs (by clear J; first | (simp [hs9]; done) | (simp_all; done) | grind)), rfl, rfl, rfl, trivial⟩)
  · skip
    refine AtL.done ?_
    refine At.cond rfl ?_ ?_
    · intro hc1
      have hc1 : ((i : Int) < (l.length : Int)) ∧ ((n : Int) ≤ 70000) := of_decide_eq_true hc1
      have hb1 := hb _ (getD_mem (l := l) (i := i) (d := (⟨none, 0, []⟩ : Bs)) (by omega))
      refine At.skip ?_
      refine At.seq ?_
      refine At.block ?_
      refine At.region ?_
      refine AtL.move (.inl rfl) rfl rfl ?_
      refine AtL.move (.inl rfl) rfl rfl ?_
      refine AtL.move (.inl rfl) rfl rfl ?_
      refine AtL.indexL i h Tryd.underlying31 tf_sz22 (.inl rfl) rfl rfl rfl rfl (by omega) ?_
      refine AtL.load (v := .slice ((l.getD i (⟨none, 0, []⟩ : Bs)).A) ((l.getD i (⟨none, 0, []⟩ : Bs)).l).length ((l.getD i (⟨none, 0, []⟩ : Bs)).C)) tf_flat22 (.inl rfl) rfl rfl (Rd.cell0 h (getD_some (⟨none, 0, []⟩ : Bs) (by omega)) rfl) ?_
      refine AtL.lenL Tryd.underlying22 (.inl rfl) rfl rfl ?_
      refine AtL.add (z := (n : Int) + (((l.getD i (⟨none, 0, []⟩ : Bs)).l).length : Int)) (.inl rfl) rfl rfl rfl (w64 (by omega) (by omega)) ?_
      refine AtL.assign (.inl rfl) rfl rfl ?_
      refine AtL.done ?_
      refine At.inBlock ?_
      refine At.region ?_
      refine AtL.move (.inl rfl) rfl rfl ?_
      refine AtL.add (z := (i : Int) + 1) (.inl rfl) rfl rfl rfl (w64 (by omega) (by omega)) ?_
      refine AtL.assign (.inl rfl) rfl rfl ?_
      refine AtL.done ?_
      refine ihL1 (i + 1) (n + (((l.getD i (⟨none, 0, []⟩ : Bs)).l).length)) (⟨by omega, by omega, by rw [List.take_succ_eq_append_getElem (by simp; omega), List.flatten_append, List.length_append, hj]; simp [List.getD, show i < l.length by omega]⟩) (by omega) _ ?_
      exact ⟨rfl, intEq (by simp), intEq (by simp), trivial⟩
    · intro hc1
      have hc1 : ¬ (((i : Int) < (l.length : Int)) ∧ ((n : Int) ≤ 70000)) := of_decide_eq_false hc1
      refine At.exit rfl ?_
      refine At.seq ?_
      refine At.region ?_
      refine AtL.move (.inl rfl) rfl rfl ?_
      refine AtL.lenL Tryd.underlying31 (.inl rfl) rfl rfl ?_
      refine AtL.gtr (.inl rfl) rfl rfl rfl ?_
      refine AtL.move (.inl rfl) rfl rfl ?_
      refine AtL.join 3 (E' := [(28, .bool (decide ((60 < (l.length : Int)) ∨ (70000 < (n : Int)))))]) (H' := H) (fun J => ?_) ?_
      · refine AtL.split (t := 25) rfl ?_ ?_
        · intro hs25
          have hs25 : 60 < (l.length : Int) := of_decide_eq_true hs25
          refine AtL.skipped rfl rfl rfl rfl rfl rfl ?_
          refine AtL.skipped rfl rfl rfl rfl rfl rfl ?_
          refine AtL.pickT (.inl rfl) rfl rfl rfl ?_
          exact J _ (by exact ⟨(boolIs (by clear J; first | (simp [hs25]; done) | (simp_all; done) | grind)), trivial⟩)
        · intro hs25
          have hs25 : ¬ (60 < (l.length : Int)) := of_decide_eq_false hs25
          refine AtL.move (.inr ⟨_, _, _, rfl, rfl, rfl, rfl⟩) rfl rfl ?_
          refine AtL.gtr (.inr ⟨_, _, _, rfl, rfl, rfl, rfl⟩) rfl rfl rfl ?_
          refine AtL.pickF (.inl rfl) rfl rfl rfl ?_
          exact J _ (by exact ⟨(boolIs (by clear J; first | (simp [hs25]; done) | (simp_all; done) | grind)), trivial⟩)
      · skip
        refine AtL.assign (.inl rfl) rfl rfl ?_
        refine AtL.done ?_
        exact At.ret Tryd.func19 rfl rfl (⟨_, fun hz => by have hz2 := of_decide_eq_false hz; refine ⟨by omega, ?_⟩; rw [List.take_of_length_le (by simp; omega)] at hj; omega, rfl, rfl⟩)

set_option maxHeartbeats 400000 in
theorem cut_ok {w0 : World} {base : Nat} {H : List Seg} {A A2 : Option Addr} {C C2 : Nat} {l : List UInt8} {ns : List Int} (h : Rd tyB w0 base H A C l) (h2 : Rd tyI w0 base H A2 C2 ns) (hl : l.length ≤ 1000000) (hc : ns.length ≤ 1000) :
    SCalls Tryd.prog 17 [.slice A l.length C, .slice A2 ns.length C2] w0 base (H) (fun v H' => ∃ x : Sl tyL 22, x.l.map (·.l) = cutF l ns ∧ (∀ y ∈ x.l, Rd tyB w0 base H y.A y.C y.l) ∧ v = .slice x.A x.l.length x.C ∧ H' = x.s :: H) := by
  refine SCalls.of_walk (n := 40) Tryd.func17 rfl rfl rfl fun cs => ?_
  refine At.seq ?_
  refine At.region ?_
  refine AtL.assign (.inl rfl) rfl rfl ?_
  refine AtL.done ?_
  refine At.seq ?_
  refine At.region ?_
  refine AtL.assign (.inl rfl) rfl rfl ?_
  refine AtL.done ?_
  refine At.seq ?_
  refine At.seq ?_
  refine At.region ?_
  refine AtL.assign (.inl rfl) rfl rfl ?_
  refine AtL.done ?_
  refine At.block ?_
  refine At.nil ?_
  refine At.loop3 (fun (i : Nat) (x : Sl tyL 22) (v : Vw tyB w0 base H) => [(0, .slice v.A v.l.length v.C), (1, .slice A2 ns.length C2), (5, .slice x.A x.l.length x.C), (6, .int .i64 (i : Int))]) (fun (i : Nat) (x : Sl tyL 22) (v : Vw tyB w0 base H) => x.s :: H) (fun (i : Nat) (x : Sl tyL 22) (v : Vw tyB w0 base H) => x.l.map (·.l) ++ cutF v.l (ns.drop i) = cutF l ns ∧ (∀ y ∈ x.l, Rd tyB w0 base H y.A y.C y.l) ∧ v.l.length ≤ l.length ∧ i ≤ ns.length ∧ x.l.length = i) (fun (i : Nat) (x : Sl tyL 22) (v : Vw tyB w0 base H) => ns.length - i) 0 Sl.nil (⟨A, C, l, h⟩) (⟨rfl, el_nil, Nat.le_refl _, Nat.zero_le _, rfl⟩) ⟨rfl, rfl, rfl, rfl, trivial⟩ rfl ?_
  rintro i x v ⟨hI, hx, hv, hi, hxi⟩ ihL1
  have hp := pick_bd (x := ns.getD i 0) (n := v.l.length)
  refine At.seq ?_
  refine At.seq ?_
  refine At.region ?_
  refine AtL.move (.inl rfl) rfl rfl ?_
  refine AtL.move (.inl rfl) rfl rfl ?_
  refine AtL.lenL Tryd.underlying32 (.inl rfl) rfl rfl ?_
  refine AtL.lss (.inl rfl) rfl rfl rfl ?_
  refine AtL.move (.inl rfl) rfl rfl ?_
  refine AtL.join 4 (E' := [(16, .bool (decide (((i : Int) < (ns.length : Int)) ∧ (0 < (v.l.length : Int))))), (0, .slice v.A v.l.length v.C), (1, .slice A2 ns.length C2), (5, .slice x.A x.l.length x.C), (6, .int .i64 (i : Int))]) (H' := x.s :: H) (fun J => ?_) ?_
  · refine AtL.split (t := 12) rfl ?_ ?_
    · intro hs12
      have hs12 : (i : Int) < (ns.length : Int) := of_decide_eq_true hs12
      refine AtL.move (.inr ⟨_, _, _, rfl, rfl, rfl, rfl⟩) rfl rfl ?_
      refine AtL.lenL Tryd.underlying22 (.inr ⟨_, _, _, rfl, rfl, rfl, rfl⟩) rfl rfl ?_
      refine AtL.gtr (.inr ⟨_, _, _, rfl, rfl, rfl, rfl⟩) rfl rfl rfl ?_
      refine AtL.pickT (.inl rfl) rfl rfl rfl ?_
      exact J _ (by exact ⟨(boolIs (by clear J; first | (simp [hs12]; done) | (simp_all; done) | grind)), rfl, rfl, rfl, rfl, trivial⟩)
    · intro hs12
      have hs12 : ¬ ((i : Int) < (ns.length : Int)) := of_decide_eq_false hs12
      refine AtL.skipped rfl rfl rfl rfl rfl rfl ?_
      refine AtL.skipped rfl rfl rfl rfl rfl rfl ?_
      refine AtL.skipped rfl rfl rfl rfl rfl rfl ?_
      refine AtL.pickF (.inl rfl) rfl rfl rfl ?_
      exact J _ (by exact ⟨(boolIs (by clear J; first | (simp [hs12]; done) | (simp_all; done) | grind)), rfl, rfl, rfl, rfl, trivial⟩)
  · skip
    refine AtL.done ?_
    refine At.cond rfl ?_ ?_
    · intro hc1
      have hc1 : ((i : Int) < (ns.length : Int)) ∧ (0 < (v.l.length : Int)) := of_decide_eq_true hc1
      refine At.skip ?_
      refine At.seq ?_
      refine At.block ?_
      refine At.seq ?_
      refine At.region ?_
      refine AtL.move (.inl rfl) rfl rfl ?_
      refine AtL.move (.inl rfl) rfl rfl ?_
      refine AtL.indexL i (Rd.skip 1 h2) Tryd.underlying32 tf_sz3 (.inl rfl) rfl rfl rfl rfl (by omega) ?_
      refine AtL.load (v := .int .i64 (ns.getD i 0)) tf_flat3 (.inl rfl) rfl rfl (Rd.cell0 (Rd.skip 1 h2) (getD_some 0 (by omega)) rfl) ?_
      refine AtL.move (.inl rfl) rfl rfl ?_
      refine AtL.lenL Tryd.underlying22 (.inl rfl) rfl rfl ?_
      refine AtL.add (z := (v.l.length : Int) + 1) (.inl rfl) rfl rfl rfl (w64 (by omega) (by omega)) ?_
      refine AtL.call tf_body30 (.inl rfl) rfl rfl (pick_ok (ns.getD i 0) ((v.l.length : Int) + 1) (by omega)) ?_
      rintro _ _ ⟨rfl, rfl⟩
      refine AtL.assign (.inl rfl) rfl rfl ?_
      refine AtL.done ?_
      refine At.seq ?_
      refine At.region ?_
      refine AtL.move (.inl rfl) rfl rfl ?_
      refine AtL.move (.inl rfl) rfl rfl ?_
      refine AtL.move (.inl rfl) rfl rfl ?_
      have hleo3 := Rd.le v.rd
      refine AtL.sliceR 1 0 (Int.toNat (pick (ns.getD i 0) ((v.l.length : Int) + 1))) v.C v.rd rfl (evBound_some rfl (by omega)) rfl (by intro h; cases h) (by omega) (by omega) (by omega) (by omega) Tryd.underlying22 tf_sz5 (.inl rfl) rfl rfl ?_
      clear hleo3
      intro A1 C2 (o3 : Rd tyB w0 base H A1 C2 (subl v.l 0 (Int.toNat (pick (ns.getD i 0) ((v.l.length : Int) + 1)))))
      have hlo3 : (subl v.l 0 (Int.toNat (pick (ns.getD i 0) ((v.l.length : Int) + 1)))).length = (Int.toNat (pick (ns.getD i 0) ((v.l.length : Int) + 1))) - 0 := subl_len (by omega)
      refine AtL.buildSlice (cs := [.slice A1 (subl v.l 0 (Int.toNat (pick (ns.getD i 0) ((v.l.length : Int) + 1)))).length C2]) Tryd.underlying31 tf_zero22 tf_sz22 rfl rfl (.inl rfl) rfl rfl rfl ?_
      intro b4
      refine AtL.own1 tyL (l := ([(⟨A1, C2, subl v.l 0 (Int.toNat (pick (ns.getD i 0) ((v.l.length : Int) + 1)))⟩ : Bs)] : List Bs)) rfl rfl (by first | decide | simp) ?_
      intro s5 o6
      refine AtL.append (l := x.l) (news := [(⟨A1, C2, subl v.l 0 (Int.toNat (pick (ns.getD i 0) ((v.l.length : Int) + 1)))⟩ : Bs)]) 1 tf_el31 rfl x.own (o6.rd (i := 0) rfl) (by first | omega | (simp only [List.length_append, List.length_cons, List.length_nil]; omega) | (simp; done) | (simp; omega)) (.inl rfl) rfl rfl rfl ?_
      intro A7 C8 s9 o10
      refine AtL.assign (.inl rfl) rfl rfl ?_
      refine AtL.done ?_
      refine At.region ?_
      refine AtL.move (.inl rfl) rfl rfl ?_
      refine AtL.move (.inl rfl) rfl rfl ?_
      have hleo13 := Rd.le v.rd
      refine AtL.sliceR 2 (Int.toNat (pick (ns.getD i 0) ((v.l.length : Int) + 1))) v.l.length v.C v.rd (evBound_some rfl (by omega)) rfl rfl (by intro h; cases h) (by omega) (by omega) (by omega) (by omega) Tryd.underlying22 tf_sz5 (.inl rfl) rfl rfl ?_
      clear hleo13
      intro A11 C12 (o13 : Rd tyB w0 base H A11 C12 (subl v.l (Int.toNat (pick (ns.getD i 0) ((v.l.length : Int) + 1))) v.l.length))
      have hlo13 : (subl v.l (Int.toNat (pick (ns.getD i 0) ((v.l.length : Int) + 1))) v.l.length).length = v.l.length - (Int.toNat (pick (ns.getD i 0) ((v.l.length : Int) + 1))) := subl_len (by omega)
      refine AtL.assign (.inl rfl) rfl rfl ?_
      refine AtL.done ?_
      refine At.inBlock ?_
      refine At.region ?_
      refine AtL.move (.inl rfl) rfl rfl ?_
      refine AtL.add (z := (i : Int) + 1) (.inl rfl) rfl rfl rfl (w64 (by omega) (by omega)) ?_
      refine AtL.assign (.inl rfl) rfl rfl ?_
      refine AtL.done ?_
      refine At.pick (H' := s9 :: H) [1] 2 rfl rfl ?_
      refine ihL1 (i + 1) (⟨A7, C8, x.l ++ [(⟨A1, C2, subl v.l 0 (Int.toNat (pick (ns.getD i 0) ((v.l.length : Int) + 1)))⟩ : Bs)], s9, o10⟩) (⟨A11, C12, subl v.l (Int.toNat (pick (ns.getD i 0) ((v.l.length : Int) + 1))) v.l.length, o13⟩) (⟨by dsimp only; rw [← hI, cutF_go (b := v.l) (cs := ns) (i := i) (by omega) (by omega), subl_to, subl_from]; simp, (el_app hx (el_cons (P := fun (x : Bs) => Rd tyB w0 base (H) x.A x.C x.l) o3 el_nil)), by simp only [subl_from, List.length_drop]; omega, by omega, by simp [hxi]⟩) (by omega) _ ?_
      exact ⟨rfl, rfl, slLen (by simp), rfl, trivial⟩
    · intro hc1
      have hc1 : ¬ (((i : Int) < (ns.length : Int)) ∧ (0 < (v.l.length : Int))) := of_decide_eq_false hc1
      refine At.exit rfl ?_
      refine At.seq ?_
      refine At.region ?_
      refine AtL.move (.inl rfl) rfl rfl ?_
      refine AtL.move (.inl rfl) rfl rfl ?_
      refine AtL.buildSlice (cs := [.slice v.A v.l.length v.C]) Tryd.underlying31 tf_zero22 tf_sz22 rfl rfl (.inl rfl) rfl rfl rfl ?_
      intro b14
      refine AtL.own1 tyL (l := ([(⟨v.A, v.C, v.l⟩ : Bs)] : List Bs)) rfl rfl (by first | decide | simp) ?_
      intro s15 o16
      refine AtL.append (l := x.l) (news := [(⟨v.A, v.C, v.l⟩ : Bs)]) 1 tf_el31 rfl x.own (o16.rd (i := 0) rfl) (by first | omega | (simp only [List.length_append, List.length_cons, List.length_nil]; omega) | (simp; done) | (simp; omega)) (.inl rfl) rfl rfl rfl ?_
      intro A17 C18 s19 o20
      refine AtL.assign (.inl rfl) rfl rfl ?_
      refine AtL.done ?_
      refine At.pick (H' := s19 :: H) [1] 2 rfl rfl ?_
      exact At.ret Tryd.func17 rfl rfl (⟨⟨A17, C18, x.l ++ [(⟨v.A, v.C, v.l⟩ : Bs)], s19, o20⟩, by rw [← hI, cutF_stop (b := v.l) (cs := ns) (i := i) (by omega)]; simp, (el_app hx (el_cons (P := fun (x : Bs) => Rd tyB w0 base (H) x.A x.C x.l) v.rd el_nil)), rfl, rfl⟩)

end Go.Proofs.YtllfgcekebafhaaDoor
