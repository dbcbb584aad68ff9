/- Bytes in pieces: the plain law, cut, pushed. -/
import Derived.Test.YtllfgcekebafhaaP9
namespace Go.Proofs.Ytllfgcekebafhaa
set_option linter.unusedVariables false
set_option linter.unusedSimpArgs false
set_option maxRecDepth 100000

theorem getD_left {a b : List UInt8} {i : Nat} (h : i < a.length) : (a ++ b).getD i 0 = a.getD i 0 := by
  simp [List.getD, List.getElem?_append_left h]
theorem subl_left {a b : List UInt8} {i j : Nat} (h : j ≤ a.length) : subl (a ++ b) i j = subl a i j := by
  unfold subl
  by_cases hi : i ≤ a.length
  · rw [List.drop_append_of_le_length hi, List.take_append_of_le_length (by simp; omega)]
  · have : j - i = 0 := by omega
    simp [this]
theorem oneF_app {h : Bool} {a b : List UInt8} (ha : (oneF h a).n ≠ 0 ∨ (oneF h a).e ≠ 0) : oneF h (a ++ b) = oneF h a := by
  by_cases h0 : a.length = 0
  · exfalso; revert ha; rw [oneF, if_pos h0]; simp
  have g0 : (a ++ b).getD 0 0 = a.getD 0 0 := getD_left (by omega)
  have l0 : ¬ (a ++ b).length = 0 := by rw [List.length_append]; omega
  by_cases c1 : (a.getD 0 0).toNat < 1 ∨ 3 < (a.getD 0 0).toNat ∨ decide (((a.getD 0 0).toNat : Int) = 1) = h
  · rw [oneF, if_neg l0, g0, if_pos c1, oneF, if_neg h0, if_pos c1]
  by_cases h3 : a.length < 3
  · exfalso; revert ha; rw [oneF, if_neg h0, if_neg c1, if_pos h3]; simp
  have g1 : (a ++ b).getD 1 0 = a.getD 1 0 := getD_left (by omega)
  have g2 : (a ++ b).getD 2 0 = a.getD 2 0 := getD_left (by omega)
  have hlen : (a ++ b).length = a.length + b.length := List.length_append
  have l3 : ¬ (a ++ b).length < 3 := by omega
  rw [oneF, if_neg l0, g0, g1, g2, if_neg c1, if_neg l3]
  rw [oneF, if_neg h0, if_neg c1, if_neg h3]
  split
  · rfl
  split
  · rfl
  rename_i c2 c4
  by_cases h5 : a.length < 3 + (256 * (a.getD 1 0).toNat + (a.getD 2 0).toNat)
  · exfalso; revert ha; rw [oneF, if_neg h0, if_neg c1, if_neg h3, if_neg c2, if_neg c4, if_pos h5]; simp
  rw [if_neg (show ¬ (a ++ b).length < _ by omega), if_neg h5]
  have g3 : (a.getD 0 0).toNat = 1 → (a ++ b).getD 3 0 = a.getD 3 0 := fun h1 => getD_left (by omega)
  rw [subl_left (by omega)]
  split
  · rename_i h1; rw [g3 h1]
  · rfl
/-- What is kept of what came, when there is no error and no end. -/
theorem oneF_short {h : Bool} {l : List UInt8} (h1 : (oneF h l).n = 0) (h2 : (oneF h l).e = 0) : l.length ≤ 1026 := by
  revert h1 h2
  unfold oneF
  repeat' split
  all_goals simp
  all_goals omega
theorem push_rest (h : Bool) (l : List UInt8) : (pushF h l).rest.length ≤ 1026 ∧ (pushF h l).rest.length ≤ l.length ∧ (pushF h l).out.length ≤ l.length := by
  induction l using (measure List.length).wf.induction generalizing h with
  | _ l ih =>
    have hn := oneF_n h l
    rw [pushF]
    split
    · simp
    · split
      · simp; omega
      · split
        · rename_i h1 h2 h3
          have := oneF_short h3 (by omega)
          simp; exact this
        · have := ih (l.drop (oneF h l).n) (show (List.drop _ _).length < _ by simp; omega) (oneF h l).h
          simp at this ⊢
          omega
theorem push_none {h : Bool} {l : List UInt8} (he : (oneF h l).e = 0) (ho : (oneF h l).off = false) (hn : (oneF h l).n = 0) : pushF h l = ⟨[], 0, l, (oneF h l).h, false⟩ := told_nil h l ▸ told_none he ho hn
theorem push_off {h : Bool} {l : List UInt8} (he : (oneF h l).e = 0) (ho : (oneF h l).off = true) : pushF h l = ⟨(oneF h l).x, 0, [], (oneF h l).h, true⟩ := told_nil h l ▸ told_off he ho
theorem push_err {h : Bool} {l : List UInt8} (he : (oneF h l).e ≠ 0) : pushF h l = ⟨[], (oneF h l).e, [], h, false⟩ := told_nil h l ▸ told_err he
theorem push_more {h : Bool} {l : List UInt8} (he : (oneF h l).e = 0) (ho : (oneF h l).off = false) (hn : (oneF h l).n ≠ 0) :
    pushF h l = { pushF (oneF h l).h (l.drop (oneF h l).n) with out := (oneF h l).x ++ (pushF (oneF h l).h (l.drop (oneF h l).n)).out } := told_nil h l ▸ told_more he ho hn
theorem oneF_n0 {h : Bool} {l : List UInt8} (ho : (oneF h l).off = true) : (oneF h l).n ≠ 0 := fun hn => by rw [oneF_off hn] at ho; cases ho
theorem oneF_hn {h : Bool} {l : List UInt8} (he : (oneF h l).n = 0) : (oneF h l).h = h := by
  revert he
  unfold oneF
  repeat' split
  all_goals simp
/-- Bytes in two pieces are told as they are in one. -/
theorem push_app (h : Bool) (a b : List UInt8) : pushF h (a ++ b) =
    if (pushF h a).e ≠ 0 ∨ (pushF h a).off = true then pushF h a
    else { pushF (pushF h a).h ((pushF h a).rest ++ b) with out := (pushF h a).out ++ (pushF (pushF h a).h ((pushF h a).rest ++ b)).out } := by
  induction a using (measure List.length).wf.induction generalizing h with
  | _ a ih =>
    have hn := oneF_n h a
    by_cases he : (oneF h a).e = 0
    · cases ho : (oneF h a).off with
      | true =>
        have hA := oneF_app (b := b) (.inl (oneF_n0 ho))
        rw [push_off he ho, push_off (by rw [hA]; exact he) (by rw [hA]; exact ho), hA, if_pos (.inr rfl)]
      | false =>
        by_cases h0 : (oneF h a).n = 0
        · rw [push_none he ho h0, if_neg (by simp)]
          simp [oneF_hn h0]
        · have hA := oneF_app (b := b) (.inl h0)
          have hd : (a ++ b).drop (oneF h a).n = a.drop (oneF h a).n ++ b := List.drop_append_of_le_length hn.1
          rw [push_more (l := a ++ b) (by rw [hA]; exact he) (by rw [hA]; exact ho) (by rw [hA]; exact h0), hA, hd, ih _ (show (List.drop _ _).length < _ by simp; omega), push_more he ho h0]
          dsimp only
          split
          · rfl
          · simp
    · have hA := oneF_app (b := b) (.inr he)
      rw [push_err he, push_err (by rw [hA]; exact he), hA, if_pos (.inl he)]
/-- A record of data, ahead of others. -/
theorem oneF_data {l b : List UInt8} (h1 : 0 < l.length) (h2 : l.length ≤ 1024) : oneF true (recB 2 l ++ b) = ⟨0, 3 + l.length, l, true, false⟩ := by
  have e0 : (recB 2 l ++ b).getD 0 0 = 2 := by simp [recB]; decide
  have e1 : ((recB 2 l ++ b).getD 1 0).toNat = l.length / 256 := by
    show (UInt8.ofInt ((l.length : Int) / 256)).toNat = _
    rw [ofInt_toNat]; omega
  have e2 : ((recB 2 l ++ b).getD 2 0).toNat = l.length % 256 := by
    show (UInt8.ofInt (l.length : Int)).toNat = _
    rw [ofInt_toNat]; omega
  have hl : (recB 2 l ++ b).length = 3 + l.length + b.length := by rw [List.length_append, recB_len]
  have hx : subl (recB 2 l ++ b) 3 (3 + l.length) = l := by
    simp [subl, recB]
  have e3 : 256 * (l.length / 256) + l.length % 256 = l.length := by omega
  rw [oneF, if_neg (by omega), e0, e1, e2, e3, hl]
  rw [if_neg (by decide), if_neg (by omega), if_neg (by rintro (⟨h, _⟩ | ⟨h, _⟩) <;> exact absurd h (by decide)), if_neg (by omega), if_neg (by omega), if_neg (by decide), if_neg (by decide), hx]
theorem push_recs (l b : List UInt8) : pushF true (recs l ++ b) = { pushF true b with out := l ++ (pushF true b).out } := by
  induction l using (measure List.length).wf.induction with
  | _ l ih =>
    by_cases h0 : 0 < l.length
    · have hd := oneF_data (l := l.take 1024) (b := recs (l.drop 1024) ++ b) (by simp; omega) (by simp; omega)
      rw [recs_more h0, List.append_assoc, push_more (by rw [hd]) (by rw [hd]) (by rw [hd]; simp), hd]
      dsimp only
      rw [show (recB 2 (l.take 1024) ++ (recs (l.drop 1024) ++ b)).drop (3 + (l.take 1024).length) = recs (l.drop 1024) ++ b from by rw [← recB_len 2]; exact List.drop_left, ih _ (show (List.drop _ _).length < _ by simp; omega)]
      simp [← List.append_assoc]
    · have : l = [] := List.eq_nil_of_length_eq_zero (by omega)
      subst this
      rw [recs_nil]
      simp
theorem push_hello (b : List UInt8) : pushF false ([1, 0, 1, 1] ++ b) = pushF true b := by
  have h1 : oneF false ([1, 0, 1, 1] ++ b) = ⟨0, 4, [], true, false⟩ := by
    have hl : ([1, 0, 1, 1] ++ b).length = 4 + b.length := by rw [List.length_append]; rfl
    have h0 : ([1, 0, 1, 1] ++ b).getD 0 0 = 1 := rfl
    have h1 : ([1, 0, 1, 1] ++ b).getD 1 0 = 0 := rfl
    have h2 : ([1, 0, 1, 1] ++ b).getD 2 0 = 1 := rfl
    have h3 : ([1, 0, 1, 1] ++ b).getD 3 0 = 1 := rfl
    rw [oneF, h0, h1, h2, h3, hl]
    rw [if_neg (by omega), if_neg (by decide), if_neg (by omega), if_neg (by decide), if_neg (by decide), if_neg (by show ¬ _ < 3 + (256 * 0 + 1); omega), if_pos (by decide), if_pos (by decide)]
  rw [push_more (by rw [h1]) (by rw [h1]) (by rw [h1]; simp), h1]
  simp
theorem push_close (b : List UInt8) : pushF true ([3, 0, 0] ++ b) = ⟨[], 0, [], true, true⟩ := by
  have h1 : oneF true ([3, 0, 0] ++ b) = ⟨0, 3, [], true, true⟩ := by
    have hl : ([3, 0, 0] ++ b).length = 3 + b.length := by rw [List.length_append]; rfl
    have h0 : ([3, 0, 0] ++ b).getD 0 0 = 3 := rfl
    have h1 : ([3, 0, 0] ++ b).getD 1 0 = 0 := rfl
    have h2 : ([3, 0, 0] ++ b).getD 2 0 = 0 := rfl
    rw [oneF, h0, h1, h2, hl]
    rw [if_neg (by omega), if_neg (by decide), if_neg (by omega), if_neg (by decide), if_neg (by decide), if_neg (by show ¬ _ < 3 + (256 * 0 + 0); omega), if_neg (by decide), if_pos (by decide)]
  rw [push_off (by rw [h1]) (by rw [h1]), h1]
theorem push_nil (h : Bool) : pushF h [] = ⟨[], 0, [], h, false⟩ := by
  have h1 : oneF h [] = ⟨0, 0, [], h, false⟩ := by simp [oneF]
  rw [push_none (by rw [h1]) (by rw [h1]) (by rw [h1]), h1]
/-- Pieces, one behind the other. -/
theorem push_step (ps : List (List UInt8)) (i : Nat) (hi : i < ps.length) (he : (pushF false (ps.take i).flatten).e = 0) (ho : (pushF false (ps.take i).flatten).off = false) :
    pushF false (ps.take (i + 1)).flatten = { pushF (pushF false (ps.take i).flatten).h ((pushF false (ps.take i).flatten).rest ++ ps.getD i []) with
      out := (pushF false (ps.take i).flatten).out ++ (pushF (pushF false (ps.take i).flatten).h ((pushF false (ps.take i).flatten).rest ++ ps.getD i [])).out } := by
  have h1 : (ps.take (i + 1)).flatten = (ps.take i).flatten ++ ps.getD i [] := by
    rw [List.take_succ_eq_append_getElem hi, List.flatten_append]
    simp [List.getD, hi]
  rw [h1, push_app, if_neg (by simp [he, ho])]
theorem push_stop (ps : List (List UInt8)) (i : Nat) (h : (pushF false (ps.take i).flatten).e ≠ 0 ∨ (pushF false (ps.take i).flatten).off = true) : pushF false ps.flatten = pushF false (ps.take i).flatten := by
  have h1 : ps.flatten = (ps.take i).flatten ++ (ps.drop i).flatten := by rw [← List.flatten_append, List.take_append_drop]
  rw [h1, push_app, if_pos h]
/-- What was sent, as it will be told. -/
def Fwd (b w : List UInt8) (g : Bool) : Prop := ∀ t, pushF false (b ++ t) = { pushF g t with out := w ++ (pushF g t).out }
theorem Fwd.start : Fwd [] [] false := fun t => rfl
theorem push_greet (g : Bool) (t : List UInt8) : pushF g (greetF g ++ t) = pushF true t := by
  cases g with
  | true => rfl
  | false => exact push_hello t
theorem Fwd.step {b w : List UInt8} {g : Bool} (h : Fwd b w g) (l : List UInt8) : Fwd (b ++ sendF g false l) (w ++ l) (sentF true g false l) := fun t => by
  rw [List.append_assoc, h]
  by_cases h0 : l.length = 0
  · have : l = [] := List.eq_nil_of_length_eq_zero h0
    subst this
    rw [sendF, if_pos (.inr rfl), sentF, if_neg (by simp)]
    simp
  · rw [sendF, if_neg (by simp; exact fun h => h0 (by simp [h])), sentF, if_pos ⟨rfl, rfl, by omega⟩, List.append_assoc, push_greet, push_recs]
    simp
theorem Fwd.close {b w : List UInt8} {g : Bool} (h : Fwd b w g) : pushF false (b ++ closeF g false) = ⟨w, 0, [], true, true⟩ := by
  have h1 := h (closeF g false ++ [])
  rw [List.append_nil] at h1
  rw [h1, closeF, if_neg (by simp)]
  have h2 := push_greet g [3, 0, 0]
  rw [h2]
  have h3 := push_close []
  rw [List.append_nil] at h3
  rw [h3]
  simp
/-- Bytes in pieces. -/
def cutF : List UInt8 → List Int → List (List UInt8)
  | b, [] => [b]
  | b, c :: cs => if b = [] then [b] else b.take (pick c (b.length + 1)).toNat :: cutF (b.drop (pick c (b.length + 1)).toNat) cs
theorem cutF_flat (b : List UInt8) (cs : List Int) : (cutF b cs).flatten = b := by
  induction cs generalizing b with
  | nil => simp [cutF]
  | cons c cs ih =>
    unfold cutF
    split
    · simp
    · rw [List.flatten_cons, ih, List.take_append_drop]
theorem cutF_stop {b : List UInt8} {cs : List Int} {i : Nat} (h : cs.length ≤ i ∨ b.length = 0) : cutF b (cs.drop i) = [b] := by
  rcases h with h | h
  · rw [List.drop_eq_nil_of_le h]; rfl
  · have := List.eq_nil_of_length_eq_zero h
    subst this
    cases hc : cs.drop i with
    | nil => rfl
    | cons c cs => simp [cutF]
theorem cutF_go {b : List UInt8} {cs : List Int} {i : Nat} (h : i < cs.length) (h2 : 0 < b.length) :
    cutF b (cs.drop i) = b.take (pick (cs.getD i 0) (b.length + 1)).toNat :: cutF (b.drop (pick (cs.getD i 0) (b.length + 1)).toNat) (cs.drop (i + 1)) := by
  have h3 : cs.drop i = cs.getD i 0 :: cs.drop (i + 1) := by rw [List.drop_eq_getElem_cons h]; simp [List.getD, h]
  rw [h3, cutF, if_neg (by intro e; subst e; simp at h2)]
theorem pick_bd {x : Int} {n : Nat} : 0 ≤ pick x (n + 1) ∧ pick x (n + 1) ≤ n := by
  rw [pick, if_neg (by omega)]
  have := Int.emod_nonneg x (show ((n : Int) + 1) ≠ 0 by omega)
  have := Int.emod_lt_of_pos x (show (0 : Int) < (n : Int) + 1 by omega)
  omega

set_option maxHeartbeats 400000 in
theorem cut_ok {w0 : World} {base : Nat} {H : List Seg} {A A2 : Option Addr} {C C2 : Nat} {l : List UInt8} {ns : List Int} (h : Rd tyB w0 base H A C l) (h2 : Rd tyI w0 base H A2 C2 ns) (hl : l.length ≤ 1000000) (hc : ns.length ≤ 1000) :
    SCalls Try.prog 17 [.slice A l.length C, .slice A2 ns.length C2] w0 base (H) (fun v H' => ∃ x : Sl tyL 22, x.l.map (·.l) = cutF l ns ∧ (∀ y ∈ x.l, Rd tyB w0 base H y.A y.C y.l) ∧ v = .slice x.A x.l.length x.C ∧ H' = x.s :: H) := by
  refine SCalls.of_walk (n := 40) Try.func17 rfl rfl rfl fun cs => ?_
  refine At.seq ?_
  refine At.region ?_
  refine AtL.assign (.inl rfl) rfl rfl ?_
  refine AtL.done ?_
  refine At.seq ?_
  refine At.region ?_
  refine AtL.assign (.inl rfl) rfl rfl ?_
  refine AtL.done ?_
  refine At.seq ?_
  refine At.seq ?_
  refine At.region ?_
  refine AtL.assign (.inl rfl) rfl rfl ?_
  refine AtL.done ?_
  refine At.block ?_
  refine At.nil ?_
  refine At.loop3 (fun (i : Nat) (x : Sl tyL 22) (v : Vw tyB w0 base H) => [(0, .slice v.A v.l.length v.C), (1, .slice A2 ns.length C2), (5, .slice x.A x.l.length x.C), (6, .int .i64 (i : Int))]) (fun (i : Nat) (x : Sl tyL 22) (v : Vw tyB w0 base H) => x.s :: H) (fun (i : Nat) (x : Sl tyL 22) (v : Vw tyB w0 base H) => x.l.map (·.l) ++ cutF v.l (ns.drop i) = cutF l ns ∧ (∀ y ∈ x.l, Rd tyB w0 base H y.A y.C y.l) ∧ v.l.length ≤ l.length ∧ i ≤ ns.length ∧ x.l.length = i) (fun (i : Nat) (x : Sl tyL 22) (v : Vw tyB w0 base H) => ns.length - i) 0 Sl.nil (⟨A, C, l, h⟩) (⟨rfl, el_nil, Nat.le_refl _, Nat.zero_le _, rfl⟩) ⟨rfl, rfl, rfl, rfl, trivial⟩ rfl ?_
  rintro i x v ⟨hI, hx, hv, hi, hxi⟩ ihL1
  have hp := pick_bd (x := ns.getD i 0) (n := v.l.length)
  refine At.seq ?_
  refine At.seq ?_
  refine At.region ?_
  refine AtL.move (.inl rfl) rfl rfl ?_
  refine AtL.move (.inl rfl) rfl rfl ?_
  refine AtL.lenL Try.underlying31 (.inl rfl) rfl rfl ?_
  refine AtL.lss (.inl rfl) rfl rfl rfl ?_
  refine AtL.move (.inl rfl) rfl rfl ?_
  refine AtL.join 4 (E' := [(16, .bool (decide (((i : Int) < (ns.length : Int)) ∧ (0 < (v.l.length : Int))))), (0, .slice v.A v.l.length v.C), (1, .slice A2 ns.length C2), (5, .slice x.A x.l.length x.C), (6, .int .i64 (i : Int))]) (H' := x.s :: H) (fun J => ?_) ?_
  · refine AtL.split (t := 12) rfl ?_ ?_
    · intro hs12
      have hs12 : (i : Int) < (ns.length : Int) := of_decide_eq_true hs12
      refine AtL.move (.inr ⟨_, _, _, rfl, rfl, rfl, rfl⟩) rfl rfl ?_
      refine AtL.lenL Try.underlying22 (.inr ⟨_, _, _, rfl, rfl, rfl, rfl⟩) rfl rfl ?_
      refine AtL.gtr (.inr ⟨_, _, _, rfl, rfl, rfl, rfl⟩) rfl rfl rfl ?_
      refine AtL.pickT (.inl rfl) rfl rfl rfl ?_
      exact J _ (by exact ⟨(boolIs (by clear J; first | (simp [hs12]; done) | (simp_all; done) | grind)), rfl, rfl, rfl, rfl, trivial⟩)
    · intro hs12
      have hs12 : ¬ ((i : Int) < (ns.length : Int)) := of_decide_eq_false hs12
      refine AtL.skipped rfl rfl rfl rfl rfl rfl ?_
      refine AtL.skipped rfl rfl rfl rfl rfl rfl ?_
      refine AtL.skipped rfl rfl rfl rfl rfl rfl ?_
      refine AtL.pickF (.inl rfl) rfl rfl rfl ?_
      exact J _ (by exact ⟨(boolIs (by clear J; first | (simp [hs12]; done) | (simp_all; done) | grind)), rfl, rfl, rfl, rfl, trivial⟩)
  · skip
    refine AtL.done ?_
    refine At.cond rfl ?_ ?_
    · intro hc1
      have hc1 : ((i : Int) < (ns.length : Int)) ∧ (0 < (v.l.length : Int)) := of_decide_eq_true hc1
      refine At.skip ?_
      refine At.seq ?_
      refine At.block ?_
      refine At.seq ?_
      refine At.region ?_
      refine AtL.move (.inl rfl) rfl rfl ?_
      refine AtL.move (.inl rfl) rfl rfl ?_
      refine AtL.indexL i (Rd.skip 1 h2) Try.underlying31 tf_sz3 (.inl rfl) rfl rfl rfl rfl (by omega) ?_
      refine AtL.load (v := .int .i64 (ns.getD i 0)) tf_flat3 (.inl rfl) rfl rfl (Rd.cell0 (Rd.skip 1 h2) (getD_some 0 (by omega)) rfl) ?_
      refine AtL.move (.inl rfl) rfl rfl ?_
      refine AtL.lenL Try.underlying22 (.inl rfl) rfl rfl ?_
      refine AtL.add (z := (v.l.length : Int) + 1) (.inl rfl) rfl rfl rfl (w64 (by omega) (by omega)) ?_
      refine AtL.call tf_body21 (.inl rfl) rfl rfl (pick_ok (ns.getD i 0) ((v.l.length : Int) + 1) (by omega)) ?_
      rintro _ _ ⟨rfl, rfl⟩
      refine AtL.assign (.inl rfl) rfl rfl ?_
      refine AtL.done ?_
      refine At.seq ?_
      refine At.region ?_
      refine AtL.move (.inl rfl) rfl rfl ?_
      refine AtL.move (.inl rfl) rfl rfl ?_
      refine AtL.move (.inl rfl) rfl rfl ?_
      have hleo3 := Rd.le v.rd
      refine AtL.sliceR 1 0 (Int.toNat (pick (ns.getD i 0) ((v.l.length : Int) + 1))) v.C v.rd rfl (evBound_some rfl (by omega)) rfl (by intro h; cases h) (by omega) (by omega) (by omega) (by omega) Try.underlying22 tf_sz5 (.inl rfl) rfl rfl ?_
      clear hleo3
      intro A1 C2 (o3 : Rd tyB w0 base H A1 C2 (subl v.l 0 (Int.toNat (pick (ns.getD i 0) ((v.l.length : Int) + 1)))))
      have hlo3 : (subl v.l 0 (Int.toNat (pick (ns.getD i 0) ((v.l.length : Int) + 1)))).length = (Int.toNat (pick (ns.getD i 0) ((v.l.length : Int) + 1))) - 0 := subl_len (by omega)
      refine AtL.buildSlice (cs := [.slice A1 (subl v.l 0 (Int.toNat (pick (ns.getD i 0) ((v.l.length : Int) + 1)))).length C2]) Try.underlying34 tf_zero22 tf_sz22 rfl rfl (.inl rfl) rfl rfl rfl ?_
      intro b4
      refine AtL.own1 tyL (l := ([(⟨A1, C2, subl v.l 0 (Int.toNat (pick (ns.getD i 0) ((v.l.length : Int) + 1)))⟩ : Bs)] : List Bs)) rfl rfl (by first | decide | simp) ?_
      intro s5 o6
      refine AtL.append (l := x.l) (news := [(⟨A1, C2, subl v.l 0 (Int.toNat (pick (ns.getD i 0) ((v.l.length : Int) + 1)))⟩ : Bs)]) 1 tf_el34 rfl x.own (o6.rd (i := 0) rfl) (by first | omega | (simp only [List.length_append, List.length_cons, List.length_nil]; omega) | (simp; done) | (simp; omega)) (.inl rfl) rfl rfl rfl ?_
      intro A7 C8 s9 o10
      refine AtL.assign (.inl rfl) rfl rfl ?_
      refine AtL.done ?_
      refine At.region ?_
      refine AtL.move (.inl rfl) rfl rfl ?_
      refine AtL.move (.inl rfl) rfl rfl ?_
      have hleo13 := Rd.le v.rd
      refine AtL.sliceR 2 (Int.toNat (pick (ns.getD i 0) ((v.l.length : Int) + 1))) v.l.length v.C v.rd (evBound_some rfl (by omega)) rfl rfl (by intro h; cases h) (by omega) (by omega) (by omega) (by omega) Try.underlying22 tf_sz5 (.inl rfl) rfl rfl ?_
      clear hleo13
      intro A11 C12 (o13 : Rd tyB w0 base H A11 C12 (subl v.l (Int.toNat (pick (ns.getD i 0) ((v.l.length : Int) + 1))) v.l.length))
      have hlo13 : (subl v.l (Int.toNat (pick (ns.getD i 0) ((v.l.length : Int) + 1))) v.l.length).length = v.l.length - (Int.toNat (pick (ns.getD i 0) ((v.l.length : Int) + 1))) := subl_len (by omega)
      refine AtL.assign (.inl rfl) rfl rfl ?_
      refine AtL.done ?_
      refine At.inBlock ?_
      refine At.region ?_
      refine AtL.move (.inl rfl) rfl rfl ?_
      refine AtL.add (z := (i : Int) + 1) (.inl rfl) rfl rfl rfl (w64 (by omega) (by omega)) ?_
      refine AtL.assign (.inl rfl) rfl rfl ?_
      refine AtL.done ?_
      refine At.pick (H' := s9 :: H) [1] 2 rfl rfl ?_
      exact ihL1 (i + 1) (⟨A7, C8, x.l ++ [(⟨A1, C2, subl v.l 0 (Int.toNat (pick (ns.getD i 0) ((v.l.length : Int) + 1)))⟩ : Bs)], s9, o10⟩) (⟨A11, C12, subl v.l (Int.toNat (pick (ns.getD i 0) ((v.l.length : Int) + 1))) v.l.length, o13⟩) (⟨by dsimp only; rw [← hI, cutF_go (b := v.l) (cs := ns) (i := i) (by omega) (by omega), subl_to, subl_drop]; simp, (el_app hx (el_cons o3 el_nil)), by simp only [subl_drop, List.length_drop]; omega, by omega, by simp [hxi]⟩) (by omega) _ (by exact ⟨rfl, rfl, slLen (by simp), rfl, trivial⟩)
    · intro hc1
      have hc1 : ¬ (((i : Int) < (ns.length : Int)) ∧ (0 < (v.l.length : Int))) := of_decide_eq_false hc1
      refine At.exit rfl ?_
      refine At.seq ?_
      refine At.region ?_
      refine AtL.move (.inl rfl) rfl rfl ?_
      refine AtL.move (.inl rfl) rfl rfl ?_
      refine AtL.buildSlice (cs := [.slice v.A v.l.length v.C]) Try.underlying34 tf_zero22 tf_sz22 rfl rfl (.inl rfl) rfl rfl rfl ?_
      intro b14
      refine AtL.own1 tyL (l := ([(⟨v.A, v.C, v.l⟩ : Bs)] : List Bs)) rfl rfl (by first | decide | simp) ?_
      intro s15 o16
      refine AtL.append (l := x.l) (news := [(⟨v.A, v.C, v.l⟩ : Bs)]) 1 tf_el34 rfl x.own (o16.rd (i := 0) rfl) (by first | omega | (simp only [List.length_append, List.length_cons, List.length_nil]; omega) | (simp; done) | (simp; omega)) (.inl rfl) rfl rfl rfl ?_
      intro A17 C18 s19 o20
      refine AtL.assign (.inl rfl) rfl rfl ?_
      refine AtL.done ?_
      refine At.pick (H' := s19 :: H) [1] 2 rfl rfl ?_
      exact At.ret Try.func17 rfl rfl (⟨⟨A17, C18, x.l ++ [(⟨v.A, v.C, v.l⟩ : Bs)], s19, o20⟩, by rw [← hI, cutF_stop (b := v.l) (cs := ns) (i := i) (by omega)]; simp, (el_app hx (el_cons v.rd el_nil)), rfl, rfl⟩)

theorem flat_take_le (ps : List (List UInt8)) (i : Nat) : (ps.take i).flatten.length ≤ ps.flatten.length := by
  have h1 : ps.flatten = (ps.take i).flatten ++ (ps.drop i).flatten := by rw [← List.flatten_append, List.take_append_drop]
  rw [h1, List.length_append]; omega
theorem flat_getD_le (ps : List (List UInt8)) (i : Nat) : (ps.getD i []).length ≤ ps.flatten.length := by
  by_cases h : i < ps.length
  · have h1 : ps = ps.take i ++ ps.getD i [] :: ps.drop (i + 1) := by
      have : ps.getD i [] = ps[i] := by simp [List.getD, h]
      rw [this, ← List.drop_eq_getElem_cons h, List.take_append_drop]
    have h2 : ps.flatten.length = (ps.take i).flatten.length + ((ps.getD i []).length + (ps.drop (i + 1)).flatten.length) := by
      conv => lhs; rw [h1]
      simp
    omega
  · simp [List.getD, h]
theorem push_eoff (h : Bool) (l : List UInt8) : (pushF h l).e ≠ 0 → (pushF h l).off = false := by
  induction l using (measure List.length).wf.induction generalizing h with
  | _ l ih =>
    rw [pushF]
    split
    · simp
    · split
      · simp
      · split
        · simp
        · have := oneF_n h l
          exact fun he => ih _ (show (List.drop _ _).length < _ by simp; omega) _ he

set_option maxHeartbeats 1000000 in
theorem pushed_ok {w0 : World} {base : Nat} {H : List Seg} {A : Option Addr} {C : Nat} {l : List Bs} (h : Rd tyL w0 base H A C l) (he : ∀ x ∈ l, Rd tyB w0 base H x.A x.C x.l) (hl : (l.map (·.l)).flatten.length ≤ 1000000) (hn : l.length ≤ 1000000) :
    SCalls Try.prog 16 [.slice A l.length C] w0 base (H) (fun v H' => ∃ x : Sl tyB 5, x.l = (pushF false (l.map (·.l)).flatten).out ∧ v = .tuple #[.slice x.A x.l.length x.C, int (pushF false (l.map (·.l)).flatten).e, .bool (pushF false (l.map (·.l)).flatten).off, .bool true] ∧ H' = x.s :: H) := by
  refine SCalls.of_walk (n := 58) Try.func16 rfl rfl rfl fun cs => ?_
  refine At.seq ?_
  refine At.region ?_
  refine AtL.assign (.inl rfl) rfl rfl ?_
  refine AtL.assign (.inl rfl) rfl rfl ?_
  refine AtL.assign (.inl rfl) rfl rfl ?_
  refine AtL.assign (.inl rfl) rfl rfl ?_
  refine AtL.done ?_
  refine At.seq ?_
  refine At.region ?_
  refine AtL.call tf_body25 (.inl rfl) rfl rfl sealed_ok ?_
  rintro _ _ ⟨b1, rfl, rfl⟩
  refine AtL.assign (.inl rfl) rfl rfl ?_
  refine AtL.done ?_
  refine At.seq ?_
  refine At.seq ?_
  refine At.region ?_
  refine AtL.move (.inl rfl) rfl rfl ?_
  refine AtL.eqIfaceNil Try.underlying39 (.inl rfl) rfl rfl rfl ?_
  refine AtL.done ?_
  refine At.condF rfl ?_
  refine At.skip ?_
  refine At.seq ?_
  refine At.region ?_
  refine AtL.assign (.inl rfl) rfl rfl ?_
  refine AtL.done ?_
  refine At.seq ?_
  refine At.seq ?_
  refine At.region ?_
  refine AtL.assign (.inl rfl) rfl rfl ?_
  refine AtL.done ?_
  refine At.block ?_
  refine At.nil ?_
  refine At.nil ?_
  refine At.loop5 (fun (i : Nat) (x : Sl tyB 5) (z : Sl tyB 5) (hh : Bool) (off : Bool) => [(0, .slice A l.length C), (6, .iface 58 (.pointer (some ⟨b1, 0, none⟩))), (7, .slice x.A x.l.length x.C), (8, .int .i64 (i : Int))]) (fun (i : Nat) (x : Sl tyB 5) (z : Sl tyB 5) (hh : Bool) (off : Bool) => x.s :: z.s :: [(b1, .cells #[.slice z.A z.l.length z.C, .bool hh, .bool off, .bool false, .bool false, .bool false] 61 (0, 0))] :: H) (fun (i : Nat) (x : Sl tyB 5) (z : Sl tyB 5) (hh : Bool) (off : Bool) => pushF false ((l.map (·.l)).take i).flatten = ⟨x.l, 0, z.l, hh, off⟩ ∧ i ≤ l.length) (fun (i : Nat) (x : Sl tyB 5) (z : Sl tyB 5) (hh : Bool) (off : Bool) => l.length - i) 0 Sl.nil Sl.nil false false (⟨push_nil false, Nat.zero_le _⟩) ⟨rfl, rfl, rfl, rfl, trivial⟩ rfl ?_
  rintro i x z hh off ⟨hI, hi⟩ ihL1
  have hr := push_rest false ((l.map (·.l)).take i).flatten
  have hT := flat_take_le (l.map (·.l)) i
  rw [hI] at hr
  dsimp only at hr
  refine At.seq ?_
  refine At.seq ?_
  refine At.region ?_
  refine AtL.move (.inl rfl) rfl rfl ?_
  refine AtL.move (.inl rfl) rfl rfl ?_
  refine AtL.lenL Try.underlying34 (.inl rfl) rfl rfl ?_
  refine AtL.lss (.inl rfl) rfl rfl rfl ?_
  refine AtL.move (.inl rfl) rfl rfl ?_
  refine AtL.join 4 (E' := [(22, .bool (decide (((i : Int) < (l.length : Int)) ∧ (off = false)))), (0, .slice A l.length C), (6, .iface 58 (.pointer (some ⟨b1, 0, none⟩))), (7, .slice x.A x.l.length x.C), (8, .int .i64 (i : Int))]) (H' := x.s :: z.s :: [(b1, .cells #[.slice z.A z.l.length z.C, .bool hh, .bool off, .bool false, .bool false, .bool false] 61 (0, 0))] :: H) (fun J => ?_) ?_
  · refine AtL.split (t := 18) rfl ?_ ?_
    · intro hs18
      have hs18 : (i : Int) < (l.length : Int) := of_decide_eq_true hs18
      refine AtL.move (.inr ⟨_, _, _, rfl, rfl, rfl, rfl⟩) rfl rfl ?_
      refine AtL.pick (H' := [(b1, .cells #[.slice z.A z.l.length z.C, .bool hh, .bool off, .bool false, .bool false, .bool false] 61 (0, 0))] :: x.s :: z.s :: H) [2, 0, 1] 3 rfl rfl ?_
      refine AtL.callI tf_body51 (.inr ⟨_, _, _, rfl, rfl, rfl, rfl⟩) rfl rfl rfl (fun w => by kernel_rfl) ended_ok ?_
      rintro _ _ ⟨rfl, rfl⟩
      refine AtL.not (.inr ⟨_, _, _, rfl, rfl, rfl, rfl⟩) rfl rfl ?_
      refine AtL.pickT (.inl rfl) rfl rfl rfl ?_
      refine AtL.pick (H' := x.s :: z.s :: [(b1, .cells #[.slice z.A z.l.length z.C, .bool hh, .bool off, .bool false, .bool false, .bool false] 61 (0, 0))] :: H) [1, 2, 0] 3 rfl rfl ?_
      exact J _ (by exact ⟨(boolIs (by clear J; first | (simp [hs18]; done) | (simp_all; done) | grind)), rfl, rfl, rfl, rfl, trivial⟩)
    · intro hs18
      have hs18 : ¬ ((i : Int) < (l.length : Int)) := of_decide_eq_false hs18
      refine AtL.skipped rfl rfl rfl rfl rfl rfl ?_
      refine AtL.skipped rfl rfl rfl rfl rfl rfl ?_
      refine AtL.skipped rfl rfl rfl rfl rfl rfl ?_
      refine AtL.pickF (.inl rfl) rfl rfl rfl ?_
      exact J _ (by exact ⟨(boolIs (by clear J; first | (simp [hs18]; done) | (simp_all; done) | grind)), rfl, rfl, rfl, rfl, trivial⟩)
  · skip
    refine AtL.done ?_
    refine At.cond rfl ?_ ?_
    · intro hc2
      have hc2 : ((i : Int) < (l.length : Int)) ∧ (off = false) := of_decide_eq_true hc2
      obtain rfl : off = false := hc2.2
      have hg : (l.map (·.l)).getD i [] = (l.getD i ⟨none, 0, []⟩).l := by simp [List.getD, show i < l.length by omega]
      have hst := push_step (l.map (·.l)) i (by simp; omega) (by rw [hI]) (by rw [hI])
      rw [hI, hg] at hst
      dsimp only at hst
      have hS : pushS hh false false z.l (l.getD i ⟨none, 0, []⟩).l = pushF hh (z.l ++ (l.getD i ⟨none, 0, []⟩).l) := by rw [pushS, if_neg (by simp)]
      have hr2 := push_rest hh (z.l ++ (l.getD i ⟨none, 0, []⟩).l)
      have hB : brokeS hh false false z.l (l.getD i ⟨none, 0, []⟩).l = decide ((pushS hh false false z.l (l.getD i ⟨none, 0, []⟩).l).e ≠ 0) := by rw [brokeS, if_neg (by simp), hS]
      rw [← hS, List.length_append] at hr2
      have hlen := flat_getD_le (l.map (·.l)) i
      rw [hg] at hlen
      refine At.skip ?_
      refine At.seq ?_
      refine At.block ?_
      refine At.seq ?_
      refine At.draw (es := [8]) (pv := [(0, .iface 58 (.pointer (some ⟨b1, 0, none⟩))), (1, .slice A l.length C), (2, .int .i64 (i : Int)), (3, .pointer (some (eaddr A (i * tyL.sz)))), (4, .slice ((l.getD i (⟨none, 0, []⟩ : Bs)).A) ((l.getD i (⟨none, 0, []⟩ : Bs)).l).length ((l.getD i (⟨none, 0, []⟩ : Bs)).C)), (5, .func (.method "Push") #[.iface 58 (.pointer (some ⟨b1, 0, none⟩))] #[]), (6, .func (.method "Push") #[.iface 58 (.pointer (some ⟨b1, 0, none⟩))] #[]), (7, .iface 58 (.pointer (some ⟨b1, 0, none⟩)))]) tf_mixed (by kernel_rfl) (by kernel_rfl) (by kernel_rfl) ?_
      refine ⟨⟨.inr ⟨_, rfl, rfl, .inl ⟨rfl, Do.move rfl⟩⟩, .inr ⟨_, rfl, rfl, .inl ⟨rfl, Do.move rfl⟩⟩, .inr ⟨_, rfl, rfl, .inl ⟨rfl, Do.move rfl⟩⟩, .inr ⟨_, rfl, rfl, .inl ⟨rfl, Do.indexL i (Rd.skip 3 h) Try.underlying34 tf_sz22 rfl rfl rfl (by omega)⟩⟩, .inr ⟨_, rfl, rfl, .inl ⟨rfl, Do.load (v := .slice ((l.getD i (⟨none, 0, []⟩ : Bs)).A) ((l.getD i (⟨none, 0, []⟩ : Bs)).l).length ((l.getD i (⟨none, 0, []⟩ : Bs)).C)) tf_flat22 rfl (Rd.cell0 (Rd.skip 3 h) (getD_some (⟨none, 0, []⟩ : Bs) (by omega)) rfl)⟩⟩, .inr ⟨_, rfl, rfl, .inl ⟨rfl, Do.makeFunc rfl rfl⟩⟩, .inr ⟨_, rfl, rfl, .inl ⟨rfl, Do.nilCheckM rfl (fun w => by kernel_rfl)⟩⟩, .inr ⟨_, rfl, rfl, .inl ⟨rfl, Do.move rfl⟩⟩, trivial⟩, rfl, rfl, by kernel_rfl, _, rfl, rfl, rfl, _, Does.pick (H' := z.s :: [(b1, .cells #[.slice z.A z.l.length z.C, .bool hh, .bool false, .bool false, .bool false, .bool false] 61 (0, 0))] :: x.s :: H) [1, 2, 0] 3 rfl rfl (Do.callI tf_body53 rfl rfl (fun w => by kernel_rfl) (push_ok (y := z) (l := (l.getD i (⟨none, 0, []⟩ : Bs)).l) (Rd.skip 1 (he _ (getD_mem (l := l) (i := i) (d := (⟨none, 0, []⟩ : Bs)) (by omega)))) (by first | omega | (simp only [List.length_append, List.length_cons, List.length_nil]; omega) | (simp; done) | (simp; omega)))), ?_⟩
      rintro _ _ ⟨⟨A2, C3, l4, s5, o6⟩, ⟨A8, C9, l10, s11, o12⟩, hx7, hx13, rfl, rfl⟩
      obtain rfl : (pushS hh false false z.l ((l.getD i (⟨none, 0, []⟩ : Bs)).l)).out = l4 := hx7.symm
      obtain rfl : (pushS hh false false z.l ((l.getD i (⟨none, 0, []⟩ : Bs)).l)).rest = l10 := hx13.symm
      refine ⟨[(9, .tuple #[.slice A2 ((pushS hh false false z.l ((l.getD i (⟨none, 0, []⟩ : Bs)).l)).out).length C3, .int .i64 ((pushS hh false false z.l ((l.getD i (⟨none, 0, []⟩ : Bs)).l)).e)]), (10, .slice A2 ((pushS hh false false z.l ((l.getD i (⟨none, 0, []⟩ : Bs)).l)).out).length C3), (11, .int .i64 ((pushS hh false false z.l ((l.getD i (⟨none, 0, []⟩ : Bs)).l)).e)), (12, .slice A2 ((pushS hh false false z.l ((l.getD i (⟨none, 0, []⟩ : Bs)).l)).out).length C3), (13, .int .i64 ((pushS hh false false z.l ((l.getD i (⟨none, 0, []⟩ : Bs)).l)).e))], rfl, ?_⟩
      refine ⟨⟨.inr ⟨_, rfl, rfl, .inl ⟨rfl, Do.move rfl⟩⟩, .inr ⟨_, rfl, rfl, .inl ⟨rfl, Do.extract rfl rfl⟩⟩, .inr ⟨_, rfl, rfl, .inl ⟨rfl, Do.extract rfl rfl⟩⟩, .inr ⟨_, rfl, rfl, .inl ⟨rfl, Do.assign rfl⟩⟩, .inr ⟨_, rfl, rfl, .inl ⟨rfl, Do.assign rfl⟩⟩, .inl (by kernel_rfl), .inl (by kernel_rfl), .inl (by kernel_rfl), .inl (by kernel_rfl), .inl (by kernel_rfl), .inl (by kernel_rfl), .inl (by kernel_rfl), .inl (by kernel_rfl), trivial⟩, by kernel_rfl, ?_⟩
      refine At.mono (E' := [(0, .slice A l.length C), (6, .iface 58 (.pointer (some ⟨b1, 0, none⟩))), (7, .slice x.A x.l.length x.C), (8, .int .i64 (i : Int)), (9, .slice A2 ((pushS hh false false z.l ((l.getD i (⟨none, 0, []⟩ : Bs)).l)).out).length C3), (10, .int .i64 ((pushS hh false false z.l ((l.getD i (⟨none, 0, []⟩ : Bs)).l)).e))]) ⟨rfl, rfl, rfl, rfl, rfl, rfl, trivial⟩ ?_
      refine At.seq ?_
      refine At.region ?_
      refine AtL.move (.inl rfl) rfl rfl ?_
      refine AtL.move (.inl rfl) rfl rfl ?_
      refine AtL.append (l := x.l) (news := (pushS hh false false z.l ((l.getD i (⟨none, 0, []⟩ : Bs)).l)).out) 3 tf_el22 rfl x.own (o6.rd (i := 0) rfl) (by first | omega | (simp only [List.length_append, List.length_cons, List.length_nil]; omega) | (simp; done) | (simp; omega)) (.inl rfl) rfl rfl rfl ?_
      intro A26 C27 s28 o29
      refine AtL.assign (.inl rfl) rfl rfl ?_
      refine AtL.done ?_
      refine At.seq ?_
      refine At.seq ?_
      refine At.region ?_
      refine AtL.move (.inl rfl) rfl rfl ?_
      refine AtL.pick (H' := [(b1, .cells #[.slice A8 ((pushS hh false false z.l ((l.getD i (⟨none, 0, []⟩ : Bs)).l)).rest).length C9, .bool ((pushS hh false false z.l ((l.getD i (⟨none, 0, []⟩ : Bs)).l)).h), .bool ((pushS hh false false z.l ((l.getD i (⟨none, 0, []⟩ : Bs)).l)).off), .bool (brokeS hh false false z.l ((l.getD i (⟨none, 0, []⟩ : Bs)).l)), .bool false, .bool false] 61 (0, 0))] :: s5 :: s11 :: s28 :: H) [2, 0, 1, 3] 4 rfl rfl ?_
      refine AtL.callI tf_body52 (.inl rfl) rfl rfl rfl (fun w => by kernel_rfl) (left_ok (y := ⟨A8, C9, (pushS hh false false z.l ((l.getD i (⟨none, 0, []⟩ : Bs)).l)).rest, s11, o12⟩)) ?_
      rintro _ _ ⟨rfl, rfl⟩
      refine AtL.gtr (.inl rfl) rfl rfl rfl ?_
      refine AtL.move (.inl rfl) rfl rfl ?_
      refine AtL.join 6 (E' := [(49, .bool (decide ((1026 < (((pushS hh false false z.l ((l.getD i (⟨none, 0, []⟩ : Bs)).l)).rest).length : Int)) ∨ (((brokeS hh false false z.l ((l.getD i (⟨none, 0, []⟩ : Bs)).l)) == (!(decide (((pushS hh false false z.l ((l.getD i (⟨none, 0, []⟩ : Bs)).l)).e) = 0)))) = false)))), (0, .slice A l.length C), (6, .iface 58 (.pointer (some ⟨b1, 0, none⟩))), (7, .slice A26 (x.l ++ ((pushS hh false false z.l ((l.getD i (⟨none, 0, []⟩ : Bs)).l)).out)).length C27), (8, .int .i64 (i : Int)), (10, .int .i64 ((pushS hh false false z.l ((l.getD i (⟨none, 0, []⟩ : Bs)).l)).e))]) (H' := [(b1, .cells #[.slice A8 ((pushS hh false false z.l ((l.getD i (⟨none, 0, []⟩ : Bs)).l)).rest).length C9, .bool ((pushS hh false false z.l ((l.getD i (⟨none, 0, []⟩ : Bs)).l)).h), .bool ((pushS hh false false z.l ((l.getD i (⟨none, 0, []⟩ : Bs)).l)).off), .bool (brokeS hh false false z.l ((l.getD i (⟨none, 0, []⟩ : Bs)).l)), .bool false, .bool false] 61 (0, 0))] :: s5 :: s11 :: s28 :: H) (fun J => ?_) ?_
      · refine AtL.split (t := 43) rfl ?_ ?_
        · intro hs43
          have hs43 : 1026 < (((pushS hh false false z.l ((l.getD i (⟨none, 0, []⟩ : Bs)).l)).rest).length : Int) := of_decide_eq_true hs43
          refine AtL.skipped rfl rfl rfl rfl rfl rfl ?_
          refine AtL.skipped rfl rfl rfl rfl rfl rfl ?_
          refine AtL.skipped rfl rfl rfl rfl rfl rfl ?_
          refine AtL.skipped rfl rfl rfl rfl rfl rfl ?_
          refine AtL.skipped rfl rfl rfl rfl rfl rfl ?_
          refine AtL.pickT (.inl rfl) rfl rfl rfl ?_
          exact J _ (by exact ⟨(boolIs (by clear J; first | (simp [hs43]; done) | (simp_all; done) | grind)), rfl, rfl, rfl, rfl, rfl, trivial⟩)
        · intro hs43
          have hs43 : ¬ (1026 < (((pushS hh false false z.l ((l.getD i (⟨none, 0, []⟩ : Bs)).l)).rest).length : Int)) := of_decide_eq_false hs43
          refine AtL.move (.inr ⟨_, _, _, rfl, rfl, rfl, rfl⟩) rfl rfl ?_
          refine AtL.callI tf_body49 (.inr ⟨_, _, _, rfl, rfl, rfl, rfl⟩) rfl rfl rfl (fun w => by kernel_rfl) broken_ok ?_
          rintro _ _ ⟨rfl, rfl⟩
          refine AtL.move (.inr ⟨_, _, _, rfl, rfl, rfl, rfl⟩) rfl rfl ?_
          refine AtL.nei (.inr ⟨_, _, _, rfl, rfl, rfl, rfl⟩) rfl rfl rfl ?_
          refine AtL.neb Try.underlying4 (.inr ⟨_, _, _, rfl, rfl, rfl, rfl⟩) rfl rfl rfl ?_
          refine AtL.pickF (.inl rfl) rfl rfl rfl ?_
          exact J _ (by exact ⟨(boolIs (by clear J; first | (simp [hs43]; done) | (simp_all; done) | grind)), rfl, rfl, rfl, rfl, rfl, trivial⟩)
      · skip
        refine AtL.done ?_
        refine At.cond rfl ?_ ?_
        · intro hc3
          have hc3 : (1026 < (((pushS hh false false z.l ((l.getD i (⟨none, 0, []⟩ : Bs)).l)).rest).length : Int)) ∨ (((brokeS hh false false z.l ((l.getD i (⟨none, 0, []⟩ : Bs)).l)) == (!(decide (((pushS hh false false z.l ((l.getD i (⟨none, 0, []⟩ : Bs)).l)).e) = 0)))) = false) := of_decide_eq_true hc3
          exact absurd hc3 (by rw [hB]; rintro (h9 | h9) <;> first | omega | (revert h9; simp))
        · intro hc3
          have hc3 : ¬ ((1026 < (((pushS hh false false z.l ((l.getD i (⟨none, 0, []⟩ : Bs)).l)).rest).length : Int)) ∨ (((brokeS hh false false z.l ((l.getD i (⟨none, 0, []⟩ : Bs)).l)) == (!(decide (((pushS hh false false z.l ((l.getD i (⟨none, 0, []⟩ : Bs)).l)).e) = 0)))) = false)) := of_decide_eq_false hc3
          refine At.skip ?_
          refine At.seq ?_
          refine At.region ?_
          refine AtL.move (.inl rfl) rfl rfl ?_
          refine AtL.nei (.inl rfl) rfl rfl rfl ?_
          refine AtL.done ?_
          refine At.cond rfl ?_ ?_
          · intro hc4
            have hc4 : ¬ (((pushS hh false false z.l ((l.getD i (⟨none, 0, []⟩ : Bs)).l)).e) = 0) := of_decide_eq_false (bnot_true hc4)
            refine At.seq ?_
            refine At.region ?_
            refine AtL.move (.inl rfl) rfl rfl ?_
            refine AtL.move (.inl rfl) rfl rfl ?_
            refine AtL.assign (.inl rfl) rfl rfl ?_
            refine AtL.assign (.inl rfl) rfl rfl ?_
            refine AtL.assign (.inl rfl) rfl rfl ?_
            refine AtL.assign (.inl rfl) rfl rfl ?_
            refine AtL.done ?_
            refine At.pick (H' := s28 :: H) [3] 4 rfl rfl ?_
            have hE : pushF false (l.map (·.l)).flatten = ⟨x.l ++ (pushS hh false false z.l (l.getD i ⟨none, 0, []⟩).l).out, (pushS hh false false z.l (l.getD i ⟨none, 0, []⟩).l).e, [], (pushF hh (z.l ++ (l.getD i ⟨none, 0, []⟩).l)).h, false⟩ := by
              rw [push_stop _ (i + 1) (.inl (by rw [hst, ← hS]; exact hc4)), hst, ← hS]
              have h1 := told_len [] hh (z.l ++ (l.getD i ⟨none, 0, []⟩).l) (by rw [← hS]; exact hc4)
              have h2 := push_eoff hh (z.l ++ (l.getD i ⟨none, 0, []⟩).l) (by rw [← hS]; exact hc4)
              rw [← hS] at h1 h2; rw [h1, h2]
            rw [hE]
            exact At.ret Try.func16 rfl rfl (⟨⟨A26, C27, x.l ++ ((pushS hh false false z.l ((l.getD i (⟨none, 0, []⟩ : Bs)).l)).out), s28, o29⟩, rfl, rfl, rfl⟩)
          · intro hc4
            have hc4 : ((pushS hh false false z.l ((l.getD i (⟨none, 0, []⟩ : Bs)).l)).e) = 0 := of_decide_eq_true (bnot_false hc4)
            have hb : brokeS hh false false z.l ((l.getD i (⟨none, 0, []⟩ : Bs)).l) = false := by rw [hB]; exact decide_eq_false (fun h9 => h9 (by omega))
            rw [hb]
            refine At.skip ?_
            refine At.inBlock ?_
            refine At.region ?_
            refine AtL.move (.inl rfl) rfl rfl ?_
            refine AtL.add (z := (i : Int) + 1) (.inl rfl) rfl rfl rfl (w64 (by omega) (by omega)) ?_
            refine AtL.assign (.inl rfl) rfl rfl ?_
            refine AtL.done ?_
            refine At.pick (H' := s28 :: s11 :: [(b1, .cells #[.slice A8 ((pushS hh false false z.l ((l.getD i (⟨none, 0, []⟩ : Bs)).l)).rest).length C9, .bool ((pushS hh false false z.l ((l.getD i (⟨none, 0, []⟩ : Bs)).l)).h), .bool ((pushS hh false false z.l ((l.getD i (⟨none, 0, []⟩ : Bs)).l)).off), .bool false, .bool false, .bool false] 61 (0, 0))] :: H) [3, 2, 0] 4 rfl rfl ?_
            exact ihL1 (i + 1) (⟨A26, C27, x.l ++ ((pushS hh false false z.l ((l.getD i (⟨none, 0, []⟩ : Bs)).l)).out), s28, o29⟩) (⟨A8, C9, (pushS hh false false z.l ((l.getD i (⟨none, 0, []⟩ : Bs)).l)).rest, s11, o12⟩) ((pushS hh false false z.l ((l.getD i (⟨none, 0, []⟩ : Bs)).l)).h) ((pushS hh false false z.l ((l.getD i (⟨none, 0, []⟩ : Bs)).l)).off) (⟨by rw [hst]; dsimp only; rw [hS, show (pushF hh (z.l ++ (l.getD i ⟨none, 0, []⟩).l)).e = 0 from by rw [← hS]; omega], by omega⟩) (by omega) _ (by exact ⟨rfl, rfl, (by first | rfl | exact slLen (by simp []) | exact intEq (by omega) | exact intEq (by simp []) | exact slLen (by simp []; omega)), (by first | rfl | exact slLen (by simp []) | exact intEq (by omega) | exact intEq (by simp []) | exact slLen (by simp []; omega)), trivial⟩)
    · intro hc2
      have hc2 : ¬ (((i : Int) < (l.length : Int)) ∧ (off = false)) := of_decide_eq_false hc2
      refine At.exit rfl ?_
      refine At.seq ?_
      refine At.region ?_
      refine AtL.move (.inl rfl) rfl rfl ?_
      refine AtL.move (.inl rfl) rfl rfl ?_
      refine AtL.pick (H' := [(b1, .cells #[.slice z.A z.l.length z.C, .bool hh, .bool off, .bool false, .bool false, .bool false] 61 (0, 0))] :: x.s :: z.s :: H) [2, 0, 1] 3 rfl rfl ?_
      refine AtL.callI tf_body51 (.inl rfl) rfl rfl rfl (fun w => by kernel_rfl) ended_ok ?_
      rintro _ _ ⟨rfl, rfl⟩
      refine AtL.assign (.inl rfl) rfl rfl ?_
      refine AtL.assign (.inl rfl) rfl rfl ?_
      refine AtL.assign (.inl rfl) rfl rfl ?_
      refine AtL.assign (.inl rfl) rfl rfl ?_
      refine AtL.done ?_
      refine At.pick (H' := x.s :: H) [1] 3 rfl rfl ?_
      have hE : pushF false (l.map (·.l)).flatten = ⟨x.l, 0, z.l, hh, off⟩ := by
        rcases Nat.lt_or_ge i l.length with h9 | h9
        · have ho : off = true := by cases off <;> simp_all
          rw [push_stop _ i (.inr (by rw [hI]; exact ho)), hI]
        · rw [← hI, List.take_of_length_le (by simpa using h9)]
      rw [hE]
      exact At.ret Try.func16 rfl rfl (⟨x, rfl, rfl, rfl⟩)

theorem cutF_len (b : List UInt8) (cs : List Int) : (cutF b cs).length ≤ cs.length + 1 := by
  induction cs generalizing b with
  | nil => simp [cutF]
  | cons c cs ih =>
    unfold cutF
    split
    · simp
    · have := ih (b.drop (pick c (b.length + 1)).toNat)
      simp; omega
theorem cut_facts {x : List Bs} {l : List UInt8} {ns : List Int} (h : x.map (·.l) = cutF l ns) : (x.map (·.l)).flatten = l ∧ x.length ≤ ns.length + 1 := by
  have h1 := cutF_len l ns
  rw [← h] at h1
  exact ⟨by rw [h, cutF_flat], by simpa using h1⟩

set_option maxHeartbeats 400000 in
theorem cuts_ok {w0 : World} {base : Nat} {H : List Seg} {A A2 A3 : Option Addr} {C C2 C3 : Nat} {l : List UInt8} {ns ms : List Int} (h : Rd tyB w0 base H A C l) (h2 : Rd tyI w0 base H A2 C2 ns) (h3 : Rd tyI w0 base H A3 C3 ms) :
    SCalls Try.prog 4 [.slice A l.length C, .slice A2 ns.length C2, .slice A3 ms.length C3] w0 base (H) (fun v H' => v = .bool true ∧ H' = H) := by
  refine SCalls.of_walk (n := 71) Try.func4 rfl rfl rfl fun cs => ?_
  refine At.seq ?_
  refine At.region ?_
  refine AtL.assign (.inl rfl) rfl rfl ?_
  refine AtL.done ?_
  refine At.seq ?_
  refine At.region ?_
  refine AtL.call tf_body9 (.inl rfl) rfl rfl awake_ok ?_
  rintro _ _ ⟨rfl, hHq⟩
  obtain rfl := hHq.symm
  refine AtL.assign (.inl rfl) rfl rfl ?_
  refine AtL.done ?_
  refine At.seq ?_
  refine At.seq ?_
  refine At.region ?_
  refine AtL.move (.inl rfl) rfl rfl ?_
  refine AtL.lenL Try.underlying22 (.inl rfl) rfl rfl ?_
  refine AtL.gtr (.inl rfl) rfl rfl rfl ?_
  refine AtL.move (.inl rfl) rfl rfl ?_
  refine AtL.join 4 (E' := [(24, .bool (decide ((6000 < (l.length : Int)) ∨ (60 < (ns.length : Int))))), (0, .slice A l.length C), (1, .slice A2 ns.length C2), (2, .slice A3 ms.length C3), (7, .bool true)]) (H' := H) (fun J => ?_) ?_
  · refine AtL.split (t := 20) rfl ?_ ?_
    · intro hs20
      have hs20 : 6000 < (l.length : Int) := of_decide_eq_true hs20
      refine AtL.skipped rfl rfl rfl rfl rfl rfl ?_
      refine AtL.skipped rfl rfl rfl rfl rfl rfl ?_
      refine AtL.skipped rfl rfl rfl rfl rfl rfl ?_
      refine AtL.pickT (.inl rfl) rfl rfl rfl ?_
      exact J _ (by exact ⟨(boolIs (by clear J; first | (simp [hs20]; done) | (simp_all; done) | grind)), rfl, rfl, rfl, rfl, trivial⟩)
    · intro hs20
      have hs20 : ¬ (6000 < (l.length : Int)) := of_decide_eq_false hs20
      refine AtL.move (.inr ⟨_, _, _, rfl, rfl, rfl, rfl⟩) rfl rfl ?_
      refine AtL.lenL Try.underlying31 (.inr ⟨_, _, _, rfl, rfl, rfl, rfl⟩) rfl rfl ?_
      refine AtL.gtr (.inr ⟨_, _, _, rfl, rfl, rfl, rfl⟩) rfl rfl rfl ?_
      refine AtL.pickF (.inl rfl) rfl rfl rfl ?_
      exact J _ (by exact ⟨(boolIs (by clear J; first | (simp [hs20]; done) | (simp_all; done) | grind)), rfl, rfl, rfl, rfl, trivial⟩)
  · skip
    refine AtL.move (.inl rfl) rfl rfl ?_
    refine AtL.join 4 (E' := [(29, .bool (decide (((6000 < (l.length : Int)) ∨ (60 < (ns.length : Int))) ∨ (60 < (ms.length : Int))))), (0, .slice A l.length C), (1, .slice A2 ns.length C2), (2, .slice A3 ms.length C3), (7, .bool true)]) (H' := H) (fun J => ?_) ?_
    · refine AtL.split (t := 25) rfl ?_ ?_
      · intro hs25
        have hs25 : (6000 < (l.length : Int)) ∨ (60 < (ns.length : Int)) := of_decide_eq_true hs25
        refine AtL.skipped rfl rfl rfl rfl rfl rfl ?_
        refine AtL.skipped rfl rfl rfl rfl rfl rfl ?_
        refine AtL.skipped rfl rfl rfl rfl rfl rfl ?_
        refine AtL.pickT (.inl rfl) rfl rfl rfl ?_
        exact J _ (by exact ⟨(boolIs (by clear J; first | (simp [hs25]; done) | (simp_all; done) | grind)), rfl, rfl, rfl, rfl, trivial⟩)
      · intro hs25
        have hs25 : ¬ ((6000 < (l.length : Int)) ∨ (60 < (ns.length : Int))) := of_decide_eq_false hs25
        refine AtL.move (.inr ⟨_, _, _, rfl, rfl, rfl, rfl⟩) rfl rfl ?_
        refine AtL.lenL Try.underlying31 (.inr ⟨_, _, _, rfl, rfl, rfl, rfl⟩) rfl rfl ?_
        refine AtL.gtr (.inr ⟨_, _, _, rfl, rfl, rfl, rfl⟩) rfl rfl rfl ?_
        refine AtL.pickF (.inl rfl) rfl rfl rfl ?_
        exact J _ (by exact ⟨(boolIs (by clear J; first | (simp [hs25]; done) | (simp_all; done) | grind)), rfl, rfl, rfl, rfl, trivial⟩)
    · skip
      refine AtL.done ?_
      refine At.cond rfl ?_ ?_
      · intro hc1
        have hc1 : ((6000 < (l.length : Int)) ∨ (60 < (ns.length : Int))) ∨ (60 < (ms.length : Int)) := of_decide_eq_true hc1
        refine At.seq ?_
        refine At.region ?_
        refine AtL.move (.inl rfl) rfl rfl ?_
        refine AtL.assign (.inl rfl) rfl rfl ?_
        refine AtL.done ?_
        exact At.ret Try.func4 rfl rfl (⟨rfl, rfl⟩)
      · intro hc1
        have hc1 : ¬ (((6000 < (l.length : Int)) ∨ (60 < (ns.length : Int))) ∨ (60 < (ms.length : Int))) := of_decide_eq_false hc1
        refine At.skip ?_
        refine At.seq ?_
        refine At.region ?_
        refine AtL.move (.inl rfl) rfl rfl ?_
        refine AtL.move (.inl rfl) rfl rfl ?_
        refine AtL.call tf_body17 (.inl rfl) rfl rfl (cut_ok (l := l) (ns := ns) h h2 (by first | omega | (simp only [List.length_append, List.length_cons, List.length_nil]; omega) | (simp; done) | (simp; omega)) (by omega)) ?_
        rintro _ _ ⟨⟨A1, C2, l3, s4, o5⟩, hm6, he7, rfl, rfl⟩
        obtain ⟨hf8, hk9⟩ := cut_facts (x := l3) hm6
        refine AtL.call tf_body16 (.inl rfl) rfl rfl (by have h9 := pushed_ok (w0 := w0) (base := base) (H := s4 :: H) (l := l3) (o5.rd (i := 0) rfl) (fun x hx => Rd.skip 1 (he7 x hx)) (by rw [hf8]; first | omega | (simp only [List.length_append]; omega)) (by omega); rw [hf8] at h9; exact h9) ?_
        rintro _ _ ⟨⟨A10, C11, l12, s13, o14⟩, hx15, rfl, rfl⟩
        obtain rfl : (pushF false l).out = l12 := hx15.symm
        refine AtL.move (.inl rfl) rfl rfl ?_
        refine AtL.extract (.inl rfl) rfl rfl rfl ?_
        refine AtL.extract (.inl rfl) rfl rfl rfl ?_
        refine AtL.extract (.inl rfl) rfl rfl rfl ?_
        refine AtL.extract (.inl rfl) rfl rfl rfl ?_
        refine AtL.assign (.inl rfl) rfl rfl ?_
        refine AtL.assign (.inl rfl) rfl rfl ?_
        refine AtL.assign (.inl rfl) rfl rfl ?_
        refine AtL.assign (.inl rfl) rfl rfl ?_
        refine AtL.done ?_
        refine At.seq ?_
        refine At.region ?_
        refine AtL.move (.inl rfl) rfl rfl ?_
        refine AtL.move (.inl rfl) rfl rfl ?_
        refine AtL.call tf_body17 (.inl rfl) rfl rfl (cut_ok (l := l) (ns := ms) (Rd.skip 2 h) (Rd.skip 2 h3) (by first | omega | (simp only [List.length_append, List.length_cons, List.length_nil]; omega) | (simp; done) | (simp; omega)) (by omega)) ?_
        rintro _ _ ⟨⟨A16, C17, l18, s19, o20⟩, hm21, he22, rfl, rfl⟩
        obtain ⟨hf23, hk24⟩ := cut_facts (x := l18) hm21
        refine AtL.call tf_body16 (.inl rfl) rfl rfl (by have h9 := pushed_ok (w0 := w0) (base := base) (H := s19 :: s13 :: s4 :: H) (l := l18) (o20.rd (i := 0) rfl) (fun x hx => Rd.pick [1, 2] 3 rfl rfl (he22 x hx)) (by rw [hf23]; first | omega | (simp only [List.length_append]; omega)) (by omega); rw [hf23] at h9; exact h9) ?_
        rintro _ _ ⟨⟨A25, C26, l27, s28, o29⟩, hx30, rfl, rfl⟩
        obtain rfl : (pushF false l).out = l27 := hx30.symm
        refine AtL.move (.inl rfl) rfl rfl ?_
        refine AtL.extract (.inl rfl) rfl rfl rfl ?_
        refine AtL.extract (.inl rfl) rfl rfl rfl ?_
        refine AtL.extract (.inl rfl) rfl rfl rfl ?_
        refine AtL.extract (.inl rfl) rfl rfl rfl ?_
        refine AtL.assign (.inl rfl) rfl rfl ?_
        refine AtL.assign (.inl rfl) rfl rfl ?_
        refine AtL.assign (.inl rfl) rfl rfl ?_
        refine AtL.assign (.inl rfl) rfl rfl ?_
        refine AtL.done ?_
        refine At.seq ?_
        refine At.region ?_
        refine AtL.move (.inl rfl) rfl rfl ?_
        refine AtL.move (.inl rfl) rfl rfl ?_
        refine AtL.move (.inr ⟨_, _, _, rfl, rfl, rfl, rfl⟩) rfl rfl ?_
        refine AtL.pickT (.inl rfl) rfl rfl rfl ?_
        refine AtL.move (.inl rfl) rfl rfl ?_
        refine AtL.move (.inr ⟨_, _, _, rfl, rfl, rfl, rfl⟩) rfl rfl ?_
        refine AtL.pickT (.inl rfl) rfl rfl rfl ?_
        refine AtL.move (.inl rfl) rfl rfl ?_
        refine AtL.move (.inr ⟨_, _, _, rfl, rfl, rfl, rfl⟩) rfl rfl ?_
        refine AtL.move (.inr ⟨_, _, _, rfl, rfl, rfl, rfl⟩) rfl rfl ?_
        refine AtL.eqi (.inr ⟨_, _, _, rfl, rfl, rfl, rfl⟩) rfl rfl rfl ?_
        refine AtL.pickT (.inl rfl) rfl rfl rfl ?_
        refine AtL.move (.inl rfl) rfl rfl ?_
        refine AtL.join 4 (E' := [(65, .bool (((pushF false l).off) == ((pushF false l).off))), (8, .slice A10 ((pushF false l).out).length C11), (12, .slice A25 ((pushF false l).out).length C26)]) (H' := s28 :: s19 :: s13 :: s4 :: H) (fun J => ?_) ?_
        · refine AtL.split (t := 61) rfl ?_ ?_
          · intro hs61
            have hs61 : ((pushF false l).e : Int) = ((pushF false l).e) := of_decide_eq_true hs61
            refine AtL.move (.inr ⟨_, _, _, rfl, rfl, rfl, rfl⟩) rfl rfl ?_
            refine AtL.move (.inr ⟨_, _, _, rfl, rfl, rfl, rfl⟩) rfl rfl ?_
            refine AtL.eqb Try.underlying4 (.inr ⟨_, _, _, rfl, rfl, rfl, rfl⟩) rfl rfl rfl ?_
            refine AtL.pickT (.inl rfl) rfl rfl rfl ?_
            exact J _ (by exact ⟨(boolIs (by clear J; first | (simp [hs61]; done) | (simp_all; done) | grind)), rfl, rfl, trivial⟩)
          · intro hs61
            exact Bool.noConfusion (hs61.symm.trans (decide_eq_true rfl))
        · skip
          refine AtL.move (.inl rfl) rfl rfl ?_
          refine AtL.join 4 (E' := [(70, .bool (decide ((pushF false l).out = (pushF false l).out)))]) (H' := s28 :: s19 :: s13 :: s4 :: H) (fun J => ?_) ?_
          · refine AtL.split (t := 66) rfl ?_ ?_
            · intro hs66
              have hs66 : (((pushF false l).off) == ((pushF false l).off)) = true := hs66
              refine AtL.move (.inr ⟨_, _, _, rfl, rfl, rfl, rfl⟩) rfl rfl ?_
              refine AtL.move (.inr ⟨_, _, _, rfl, rfl, rfl, rfl⟩) rfl rfl ?_
              refine AtL.call tf_body13 (.inr ⟨_, _, _, rfl, rfl, rfl, rfl⟩) rfl rfl (same_ok (l := (pushF false l).out) (l2 := (pushF false l).out) (o14.rd (i := 2) rfl) (o29.rd (i := 0) rfl)) ?_
              rintro _ _ ⟨rfl, rfl⟩
              refine AtL.pickT (.inl rfl) rfl rfl rfl ?_
              exact J _ (by exact ⟨(boolIs (by clear J; first | (simp [hs66]; done) | (simp_all; done) | grind)), trivial⟩)
            · intro hs66
              exact Bool.noConfusion (hs66.symm.trans (beq_self_eq_true _))
          · skip
            refine AtL.assign (.inl rfl) rfl rfl ?_
            refine AtL.done ?_
            refine At.pick (H' := H) [] 4 rfl rfl ?_
            exact At.ret Try.func4 rfl rfl (⟨congrArg Value.bool (decide_eq_true rfl), rfl⟩)

end Go.Proofs.Ytllfgcekebafhaa
