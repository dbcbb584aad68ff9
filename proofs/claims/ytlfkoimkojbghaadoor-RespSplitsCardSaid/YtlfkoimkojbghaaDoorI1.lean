/- Heads: Parse. -/
import Derived.Test.YtlfkoimkojbghaaDoorH9
namespace Go.Proofs.YtlfkoimkojbghaaDoor
set_option linter.unusedVariables false
set_option linter.unusedSimpArgs false
set_option maxRecDepth 100000

theorem version_no {w0 : World} {base : Nat} {H : List Seg} {l : List UInt8} (hl : l.length ≤ 140737488355000) (hv : verF l = false) : SCalls Tryd.prog 76 [str l] w0 base H (fun v H' => v = .tuple #[.int .u8 0, .int .u8 0, .bool false] ∧ H' = H) :=
  (version_ok hl).mono fun v H' h => by
    rcases h with ⟨_, h⟩ | ⟨h, _⟩
    · exact h
    · rw [hv] at h; cases h
theorem version_yes {w0 : World} {base : Nat} {H : List Seg} {l : List UInt8} (hl : l.length ≤ 140737488355000) (hv : verF l = true) : SCalls Tryd.prog 76 [str l] w0 base H (fun v H' => v = .tuple #[.int .u8 ((l.getD 5 0 - 48).toNat : Int), .int .u8 ((l.getD 7 0 - 48).toNat : Int), .bool true] ∧ H' = H) :=
  (version_ok hl).mono fun v H' h => by
    rcases h with ⟨h, _⟩ | ⟨_, _, h⟩
    · rw [hv] at h; cases h
    · exact h
theorem spF_le (c : UInt8) (l : List UInt8) : ∀ s ∈ spF c l, s.length ≤ l.length := by
  induction l with
  | nil => intro s hs; simp [spF] at hs; subst hs; simp
  | cons a l ih =>
    intro s hs
    unfold spF at hs
    by_cases h : a = c
    · rw [if_pos h] at hs
      rcases List.mem_cons.1 hs with rfl | hs
      · simp
      · have := ih s hs; simp; omega
    · rw [if_neg h] at hs
      cases hq : spF c l with
      | nil => exact absurd hq (spF_ne c l)
      | cons y ys =>
        rw [hq] at hs ih
        simp at hs
        rcases hs with rfl | hs
        · have := ih y (by simp); simp; omega
        · have := ih s (by simp [hs]); simp; omega
theorem lines_le {b : List UInt8} {ls : List (List UInt8)} (h : linesF b = some ls) : (∀ s ∈ ls, s.length ≤ b.length) ∧ ls.length ≤ b.length := by
  have hl := linesF_len h
  have key : ∀ ls : List (List UInt8), (∀ s ∈ ls, s.length ≤ (ls.map fun l => l.length + 2).sum) ∧ ls.length ≤ (ls.map fun l => l.length + 2).sum := by
    intro ls
    induction ls with
    | nil => exact ⟨fun s hs => absurd hs (by simp), by simp⟩
    | cons x ls ih =>
      obtain ⟨h1, h2⟩ := ih
      refine ⟨fun s hs => ?_, by simp; omega⟩
      rcases List.mem_cons.1 hs with rfl | hs
      · simp; omega
      · have := h1 s hs; simp; omega
  obtain ⟨h1, h2⟩ := key ls
  exact ⟨fun s hs => by have := h1 s hs; omega, by omega⟩
theorem three {α : Type} {l : List α} (d : α) (h : l.length = 3) : l = [l.getD 0 d, l.getD 1 d, l.getD 2 d] := by
  match l, h with
  | [a, b, c], _ => rfl
theorem headF_eq (l0 : List UInt8) (ls : List (List UInt8)) : headF l0 ls =
    if ¬ (spF 32 l0).length = 3 ∨ (spF 32 l0).getD 0 [] = [] ∨ (spF 32 l0).getD 1 [] = [] ∨ (spF 32 l0).getD 2 [] = [] ∨ wordF ((spF 32 l0).getD 0 []) 16 = false then (.zero, 400)
    else if verF ((spF 32 l0).getD 2 []) = false then (.zero, 400)
    else if ((spF 32 l0).getD 2 []).getD 5 0 ≠ 49 ∨ 49 < ((spF 32 l0).getD 2 []).getD 7 0 then (.zero, 505)
    else if 2048 < ((spF 32 l0).getD 1 []).length then (.zero, 414)
    else if targetF ((spF 32 l0).getD 1 []) = false then (.zero, 400)
    else match fieldsF ls 0 with
      | .inl s => (.zero, s)
      | .inr fs => if hostsF fs ((((spF 32 l0).getD 2 []).getD 7 0 - 48).toNat : Int) then (⟨(spF 32 l0).getD 0 [], (spF 32 l0).getD 1 [], ((((spF 32 l0).getD 2 []).getD 7 0 - 48).toNat : Int), fs⟩, 200) else (.zero, 400) := by
  unfold headF
  by_cases h : (spF 32 l0).length = 3
  · have h3 := three [] h
    generalize (spF 32 l0) = W at *
    match W, h with
    | [a, b, c], _ => simp; cases fieldsF ls 0 <;> rfl
  · rw [if_pos (.inl h)]
    split
    · rename_i m t v hw; rw [hw] at h; simp at h
    · rfl
theorem dig_one : ∀ c : Fin 256, 48 ≤ c.val → c.val ≤ 57 → (((UInt8.ofNat c.val - 48).toNat = 1 ↔ UInt8.ofNat c.val = 49) ∧ (1 < (UInt8.ofNat c.val - 48).toNat ↔ 49 < UInt8.ofNat c.val)) := by decide +kernel
theorem dig_two {c : UInt8} (h1 : 48 ≤ c) (h2 : c ≤ 57) : ((c - 48).toNat = 1 ↔ c = 49) ∧ (1 < (c - 48).toNat ↔ 49 < c) := by
  have := dig_one ⟨c.toNat, c.toNat_lt⟩ h1 h2
  simpa using this
theorem ver_dig {v : List UInt8} (h : verF v = true) : (¬ (((v.getD 5 0 - 48).toNat : Int) = 1) ↔ v.getD 5 0 ≠ 49) ∧ (1 < ((v.getD 7 0 - 48).toNat : Int) ↔ 49 < v.getD 7 0) := by
  simp only [verF, Bool.and_eq_true, decide_eq_true_eq] at h
  obtain ⟨⟨⟨⟨_, _⟩, h5⟩, _⟩, h7⟩ := h
  have a5 := (dig_two h5.1 h5.2).1
  have a7 := (dig_two h7.1 h7.2).2
  refine ⟨not_congr ⟨fun h => a5.1 (by omega), fun h => by have := a5.2 h; omega⟩, ⟨fun h => a7.1 (by omega), fun h => by have := a7.2 h; omega⟩⟩
theorem fields_step {L : List (List UInt8)} {k : Nat} (h : k < L.length) : fieldsF (L.drop k) k = if k = 32 then .inl 431 else if ¬ (Lib.cut (L.getD k []) [58]).2.2 = true ∨ wordF (Lib.cut (L.getD k []) [58]).1 64 = false ∨ valueF (Lib.trimS (Lib.cut (L.getD k []) [58]).2.1 [9, 32]) = false then .inl 400
    else match fieldsF (L.drop (k + 1)) (k + 1) with | .inl s => .inl s | .inr fs => .inr (((Lib.cut (L.getD k []) [58]).1, Lib.trimS (Lib.cut (L.getD k []) [58]).2.1 [9, 32]) :: fs) := by
  rw [List.drop_eq_getElem_cons h]
  have e : L[k] = L.getD k [] := by simp [List.getD, h]
  rw [e, fieldsF]
  by_cases h1 : k = 32
  · rw [if_pos h1, if_pos h1]
  · rw [if_neg h1, if_neg h1, cut_c]
    by_cases h2 : (Lib.cut (L.getD k []) [58]).2.2 = true
    · rw [if_pos h2]
      simp only [trim_set]
      by_cases h3 : wordF (Lib.cut (L.getD k []) [58]).1 64 = true
      · by_cases h4 : valueF (trimF (Lib.cut (L.getD k []) [58]).2.1) = true
        · rw [if_pos (by rw [h3, h4]; rfl), if_neg (by rw [h2, h3, h4]; simp)]
          cases fieldsF (List.drop (k + 1) L) (k + 1) <;> rfl
        · have h5 : ¬ (wordF (Lib.cut (L.getD k []) [58]).1 64 && valueF (trimF (Lib.cut (L.getD k []) [58]).2.1)) = true := by rw [h3]; simpa using h4
          rw [if_neg h5, if_pos (.inr (.inr (by simpa using h4)))]
      · rw [if_neg (fun h5 => h3 (Bool.and_eq_true_iff.1 h5).1), if_pos (.inr (.inl (by simpa using h3)))]
    · rw [if_neg h2, if_pos (.inl h2)]
theorem trimS_le (l cs : List UInt8) : (Lib.trimS l cs).length ≤ l.length := by
  unfold Lib.trimS Lib.trimLeftS Lib.trimRightS
  have h1 := dw_le (fun c => cs.contains c) l.reverse
  have h2 := dw_le (fun c => cs.contains c) (List.dropWhile (fun c => cs.contains c) l.reverse).reverse
  simp at h1 h2 ⊢
  omega

theorem not3 {a b : Prop} : ¬ a ∨ b ↔ ¬ a ∨ b := Iff.rfl

set_option maxHeartbeats 400000 in
theorem parse_ok {w0 : World} {base : Nat} {H : List Seg} {A : Option Addr} {C : Nat} {b : List UInt8} (h : Rd tyB w0 base H A C b) (T : Tabs w0 base) :
    SCalls Tryd.prog 41 [.slice A b.length C] w0 base (H) (fun v H' => ∃ x : Sl tyField 67, v = .tuple #[.agg #[str (parseF b).1.m, str (parseF b).1.t, int (parseF b).1.minor, .slice x.A x.l.length x.C], int (parseF b).2] ∧ x.l = (parseF b).1.fs ∧ H' = x.s :: H) := by
  have hcap := h.cap
  have hle := h.le
  refine SCalls.of_walk (n := 155) Tryd.func41 rfl rfl rfl fun cs => ?_
  refine At.seq ?_
  refine At.region ?_
  refine AtL.alloc tf_zero24 (cs := #[str [], str [], .int .i64 0, .slice none 0 0]) rfl (.inl rfl) rfl ?_
  intro b1
  refine AtL.assign (.inl rfl) rfl rfl ?_
  refine AtL.done ?_
  refine At.seq ?_
  refine At.seq ?_
  refine At.region ?_
  refine AtL.move (.inl rfl) rfl rfl ?_
  refine AtL.lenL Tryd.underlying25 (.inl rfl) rfl rfl ?_
  refine AtL.gtr (.inl rfl) rfl rfl rfl ?_
  refine AtL.done ?_
  refine At.cond rfl ?_ ?_
  · intro hc1
    have hc1 : 4096 < (b.length : Int) := of_decide_eq_true hc1
    refine At.seq ?_
    refine At.region ?_
    refine AtL.build (cs := [str [], str [], .int .i64 0, .slice none 0 0]) tf_lay24 (.inl rfl) rfl rfl rfl ?_
    refine AtL.store (H' := [(b1, .cells #[str [], str [], .int .i64 0, .slice none 0 0] 24 (0, 0))] :: H) 0 0 tf_sz24 (.inl rfl) rfl rfl rfl rfl rfl rfl rfl rfl rfl ?_
    refine AtL.assign (.inl rfl) rfl rfl ?_
    refine AtL.done ?_
    refine At.nil ?_
    have hp : parseF b = (.zero, 431) := by rw [parseF, if_pos (by omega)]
    exact At.retMP (vs := [.agg #[str [], str [], .int .i64 0, .slice none 0 0], .int .i64 431]) (H2 := [] :: H) [0] 2 rfl rfl Tryd.func41 rfl ⟨⟨_, rfl, LoadsTo.agg (cs := [str [], str [], .int .i64 0, .slice none 0 0]) tf_agg24 rfl (cellsOwn 1 0 0 rfl rfl rfl)⟩, rfl, trivial⟩ (⟨Sl.nil, by rw [hp]; rfl, by rw [hp]; rfl, rfl⟩)
  · intro hc1
    have hc1 : ¬ (4096 < (b.length : Int)) := of_decide_eq_false hc1
    refine At.skip ?_
    refine At.seq ?_
    refine At.region ?_
    refine AtL.move (.inl rfl) rfl rfl ?_
    refine AtL.call tf_body73 (.inl rfl) rfl rfl (lines_ok (b := b) (Rd.skip 1 h) (by omega) T) ?_
    rintro _ _ ⟨⟨A2, C3, l4, s5, o6⟩, rfl, hx7, rfl⟩
    have hlines := hx7
    refine AtL.move (.inl rfl) rfl rfl ?_
    refine AtL.extract (.inl rfl) rfl rfl rfl ?_
    refine AtL.extract (.inl rfl) rfl rfl rfl ?_
    refine AtL.assign (.inl rfl) rfl rfl ?_
    refine AtL.assign (.inl rfl) rfl rfl ?_
    refine AtL.done ?_
    refine At.seq ?_
    refine At.seq ?_
    refine At.region ?_
    refine AtL.move (.inl rfl) rfl rfl ?_
    refine AtL.not (.inl rfl) rfl rfl ?_
    refine AtL.move (.inl rfl) rfl rfl ?_
    refine AtL.join 4 (E' := [(30, .bool (decide ((((linesF b).isSome) = false) ∨ ((l4.length : Int) = 0)))), (2, .pointer (some ⟨b1, 0, none⟩)), (4, .slice A2 l4.length C3)]) (H' := s5 :: [(b1, .cells #[str [], str [], .int .i64 0, .slice none 0 0] 24 (0, 0))] :: H) (fun J => ?_) ?_
    · refine AtL.split (t := 26) rfl ?_ ?_
      · intro hs26
        have hs26 : ((linesF b).isSome) = false := bnot_true hs26
        refine AtL.skipped rfl rfl rfl rfl rfl rfl ?_
        refine AtL.skipped rfl rfl rfl rfl rfl rfl ?_
        refine AtL.skipped rfl rfl rfl rfl rfl rfl ?_
        refine AtL.pickT (.inl rfl) rfl rfl rfl ?_
        exact J _ (by exact ⟨(boolIs (by clear J; first | (simp [hs26]; done) | (simp_all; done) | grind)), rfl, rfl, trivial⟩)
      · intro hs26
        have hs26 : ((linesF b).isSome) = true := bnot_false hs26
        refine AtL.move (.inr ⟨_, _, _, rfl, rfl, rfl, rfl⟩) rfl rfl ?_
        refine AtL.lenL Tryd.underlying38 (.inr ⟨_, _, _, rfl, rfl, rfl, rfl⟩) rfl rfl ?_
        refine AtL.eqi (.inr ⟨_, _, _, rfl, rfl, rfl, rfl⟩) rfl rfl rfl ?_
        refine AtL.pickF (.inl rfl) rfl rfl rfl ?_
        exact J _ (by exact ⟨(boolIs (by clear J; first | (simp [hs26]; done) | (simp_all; done) | grind)), rfl, rfl, trivial⟩)
    · skip
      refine AtL.done ?_
      refine At.cond rfl ?_ ?_
      · intro hc2
        have hc2 : (((linesF b).isSome) = false) ∨ ((l4.length : Int) = 0) := of_decide_eq_true hc2
        refine At.seq ?_
        refine At.region ?_
        refine AtL.build (cs := [str [], str [], .int .i64 0, .slice none 0 0]) tf_lay24 (.inl rfl) rfl rfl rfl ?_
        refine AtL.store (H' := s5 :: [(b1, .cells #[str [], str [], .int .i64 0, .slice none 0 0] 24 (0, 0))] :: H) 1 0 tf_sz24 (.inl rfl) rfl rfl rfl rfl rfl rfl rfl rfl rfl ?_
        refine AtL.assign (.inl rfl) rfl rfl ?_
        refine AtL.done ?_
        refine At.nil ?_
        have hp : parseF b = (.zero, 400) := by
          rw [parseF, if_neg (by omega)]
          cases hq : linesF b with
          | none => rfl
          | some q =>
            have hql := hx7 q hq
            rw [hq] at hc2
            obtain rfl : q = [] := by rw [← hql]; exact List.eq_nil_of_length_eq_zero (by simpa using hc2)
            rfl
        exact At.retMP (vs := [.agg #[str [], str [], .int .i64 0, .slice none 0 0], .int .i64 400]) (H2 := [] :: H) [0] 3 rfl rfl Tryd.func41 rfl ⟨⟨_, rfl, LoadsTo.agg (cs := [str [], str [], .int .i64 0, .slice none 0 0]) tf_agg24 rfl (cellsOwn 2 0 0 rfl rfl rfl)⟩, rfl, trivial⟩ (⟨Sl.nil, by rw [hp]; rfl, by rw [hp]; rfl, rfl⟩)
      · intro hc2
        have hc2 : ¬ ((((linesF b).isSome) = false) ∨ ((l4.length : Int) = 0)) := of_decide_eq_false hc2
        obtain ⟨ls, hls⟩ : ∃ ls, linesF b = some ls := Option.isSome_iff_exists.1 (by cases hq : (linesF b).isSome <;> simp_all)
        have hll := (hx7 ls hls).symm
        have hne : ls.length ≠ 0 := by intro h; rw [hll] at h; simp only [not_or] at hc2; exact hc2.2 (by rw [h]; rfl)
        have hdl : (ls.drop 1).length = ls.length - 1 := by simp
        subst hll
        have hlb := lines_le hls
        have hp0 : parseF b = headF (ls.getD 0 []) (ls.drop 1) := by rw [parseF, if_neg (by omega), hls]; cases ls with | nil => simp at hne | cons a r => rfl
        have hl0 := hlb.1 (ls.getD 0 []) (getD_mem (l := ls) (i := 0) (by omega))
        have hw := spF_le 32 (ls.getD 0 [])
        have hWn : 0 < (spF 32 (ls.getD 0 [])).length := List.length_pos_iff.2 (spF_ne _ _)
        refine At.skip ?_
        refine At.seq ?_
        refine At.region ?_
        refine AtL.move (.inl rfl) rfl rfl ?_
        refine AtL.indexL 0 (o6.rd (i := 0) rfl) Tryd.underlying38 tf_sz9 (.inl rfl) rfl rfl rfl rfl (by omega) ?_
        refine AtL.load (v := str (ls.getD 0 [])) tf_flat9 (.inl rfl) rfl rfl (Rd.cell0 (o6.rd (i := 0) rfl) (getD_some [] (by omega)) rfl) ?_
        refine AtL.call tf_body74 (.inl rfl) rfl rfl (split_ok (x := (ls.getD 0 [])) 32 (by omega) T) ?_
        rintro _ _ ⟨⟨A8, C9, l10, s11, o12⟩, hx13, rfl, rfl⟩
        obtain rfl : spF 32 (ls.getD 0 []) = l10 := hx13.symm
        refine AtL.assign (.inl rfl) rfl rfl ?_
        refine AtL.done ?_
        refine At.seq ?_
        refine At.seq ?_
        refine At.region ?_
        refine AtL.move (.inl rfl) rfl rfl ?_
        refine AtL.lenL Tryd.underlying38 (.inl rfl) rfl rfl ?_
        refine AtL.nei (.inl rfl) rfl rfl rfl ?_
        refine AtL.move (.inl rfl) rfl rfl ?_
        refine AtL.join 5 (E' := [(44, .bool (decide ((¬ (((spF 32 (ls.getD 0 [])).length : Int) = 3)) ∨ (((spF 32 (ls.getD 0 [])).getD 0 []) = [])))), (2, .pointer (some ⟨b1, 0, none⟩)), (4, .slice A2 ls.length C3), (6, .slice A8 (spF 32 (ls.getD 0 [])).length C9)]) (H' := s11 :: s5 :: [(b1, .cells #[str [], str [], .int .i64 0, .slice none 0 0] 24 (0, 0))] :: H) (fun J => ?_) ?_
        · refine AtL.split (t := 39) rfl ?_ ?_
          · intro hs39
            have hs39 : ¬ (((spF 32 (ls.getD 0 [])).length : Int) = 3) := of_decide_eq_false (bnot_true hs39)
            refine AtL.skipped rfl rfl rfl rfl rfl rfl ?_
            refine AtL.skipped rfl rfl rfl rfl rfl rfl ?_
            refine AtL.skipped rfl rfl rfl rfl rfl rfl ?_
            refine AtL.skipped rfl rfl rfl rfl rfl rfl ?_
            refine AtL.pickT (.inl rfl) rfl rfl rfl ?_
            exact J _ (by exact ⟨(boolIs (by clear J; first | (simp [hs39]; done) | (simp_all; done) | grind)), rfl, rfl, rfl, trivial⟩)
          · intro hs39
            have hs39 : ((spF 32 (ls.getD 0 [])).length : Int) = 3 := of_decide_eq_true (bnot_false hs39)
            refine AtL.move (.inr ⟨_, _, _, rfl, rfl, rfl, rfl⟩) rfl rfl ?_
            refine AtL.indexL 0 (o12.rd (i := 0) rfl) Tryd.underlying38 tf_sz9 (.inr ⟨_, _, _, rfl, rfl, rfl, rfl⟩) rfl rfl rfl rfl (by omega) ?_
            refine AtL.load (v := str ((spF 32 (ls.getD 0 [])).getD 0 [])) tf_flat9 (.inr ⟨_, _, _, rfl, rfl, rfl, rfl⟩) rfl rfl (Rd.cell0 (o12.rd (i := 0) rfl) (getD_some [] (by omega)) rfl) ?_
            refine AtL.eqs (a := ((spF 32 (ls.getD 0 [])).getD 0 [])) (b := []) (.inr ⟨_, _, _, rfl, rfl, rfl, rfl⟩) rfl rfl rfl ?_
            refine AtL.pickF (.inl rfl) rfl rfl rfl ?_
            exact J _ (by exact ⟨(boolIs (by clear J; first | (simp [hs39]; done) | (simp_all; done) | grind)), rfl, rfl, rfl, trivial⟩)
        · skip
          refine AtL.move (.inl rfl) rfl rfl ?_
          refine AtL.join 5 (E' := [(50, .bool (decide (((¬ (((spF 32 (ls.getD 0 [])).length : Int) = 3)) ∨ (((spF 32 (ls.getD 0 [])).getD 0 []) = [])) ∨ (((spF 32 (ls.getD 0 [])).getD 1 []) = [])))), (2, .pointer (some ⟨b1, 0, none⟩)), (4, .slice A2 ls.length C3), (6, .slice A8 (spF 32 (ls.getD 0 [])).length C9)]) (H' := s11 :: s5 :: [(b1, .cells #[str [], str [], .int .i64 0, .slice none 0 0] 24 (0, 0))] :: H) (fun J => ?_) ?_
          · refine AtL.split (t := 45) rfl ?_ ?_
            · intro hs45
              have hs45 : (¬ (((spF 32 (ls.getD 0 [])).length : Int) = 3)) ∨ (((spF 32 (ls.getD 0 [])).getD 0 []) = []) := of_decide_eq_true hs45
              refine AtL.skipped rfl rfl rfl rfl rfl rfl ?_
              refine AtL.skipped rfl rfl rfl rfl rfl rfl ?_
              refine AtL.skipped rfl rfl rfl rfl rfl rfl ?_
              refine AtL.skipped rfl rfl rfl rfl rfl rfl ?_
              refine AtL.pickT (.inl rfl) rfl rfl rfl ?_
              exact J _ (by exact ⟨(boolIs (by clear J; first | (simp [hs45]; done) | (simp_all; done) | grind)), rfl, rfl, rfl, trivial⟩)
            · intro hs45
              have hs45 : ¬ ((¬ (((spF 32 (ls.getD 0 [])).length : Int) = 3)) ∨ (((spF 32 (ls.getD 0 [])).getD 0 []) = [])) := of_decide_eq_false hs45
              have hW3 : (spF 32 (ls.getD 0 [])).length = 3 := by simp only [not_or, Classical.not_not] at hs45; omega
              refine AtL.move (.inr ⟨_, _, _, rfl, rfl, rfl, rfl⟩) rfl rfl ?_
              refine AtL.indexL 1 (o12.rd (i := 0) rfl) Tryd.underlying38 tf_sz9 (.inr ⟨_, _, _, rfl, rfl, rfl, rfl⟩) rfl rfl rfl rfl (by omega) ?_
              refine AtL.load (v := str ((spF 32 (ls.getD 0 [])).getD 1 [])) tf_flat9 (.inr ⟨_, _, _, rfl, rfl, rfl, rfl⟩) rfl rfl (Rd.cell0 (o12.rd (i := 0) rfl) (getD_some [] (by omega)) rfl) ?_
              refine AtL.eqs (a := ((spF 32 (ls.getD 0 [])).getD 1 [])) (b := []) (.inr ⟨_, _, _, rfl, rfl, rfl, rfl⟩) rfl rfl rfl ?_
              refine AtL.pickF (.inl rfl) rfl rfl rfl ?_
              exact J _ (by exact ⟨(boolIs (by clear J; first | (simp [hs45]; done) | (simp_all; done) | grind)), rfl, rfl, rfl, trivial⟩)
          · skip
            refine AtL.move (.inl rfl) rfl rfl ?_
            refine AtL.join 5 (E' := [(56, .bool (decide ((((¬ (((spF 32 (ls.getD 0 [])).length : Int) = 3)) ∨ (((spF 32 (ls.getD 0 [])).getD 0 []) = [])) ∨ (((spF 32 (ls.getD 0 [])).getD 1 []) = [])) ∨ (((spF 32 (ls.getD 0 [])).getD 2 []) = [])))), (2, .pointer (some ⟨b1, 0, none⟩)), (4, .slice A2 ls.length C3), (6, .slice A8 (spF 32 (ls.getD 0 [])).length C9)]) (H' := s11 :: s5 :: [(b1, .cells #[str [], str [], .int .i64 0, .slice none 0 0] 24 (0, 0))] :: H) (fun J => ?_) ?_
            · refine AtL.split (t := 51) rfl ?_ ?_
              · intro hs51
                have hs51 : ((¬ (((spF 32 (ls.getD 0 [])).length : Int) = 3)) ∨ (((spF 32 (ls.getD 0 [])).getD 0 []) = [])) ∨ (((spF 32 (ls.getD 0 [])).getD 1 []) = []) := of_decide_eq_true hs51
                refine AtL.skipped rfl rfl rfl rfl rfl rfl ?_
                refine AtL.skipped rfl rfl rfl rfl rfl rfl ?_
                refine AtL.skipped rfl rfl rfl rfl rfl rfl ?_
                refine AtL.skipped rfl rfl rfl rfl rfl rfl ?_
                refine AtL.pickT (.inl rfl) rfl rfl rfl ?_
                exact J _ (by exact ⟨(boolIs (by clear J; first | (simp [hs51]; done) | (simp_all; done) | grind)), rfl, rfl, rfl, trivial⟩)
              · intro hs51
                have hs51 : ¬ (((¬ (((spF 32 (ls.getD 0 [])).length : Int) = 3)) ∨ (((spF 32 (ls.getD 0 [])).getD 0 []) = [])) ∨ (((spF 32 (ls.getD 0 [])).getD 1 []) = [])) := of_decide_eq_false hs51
                have hW3 : (spF 32 (ls.getD 0 [])).length = 3 := by simp only [not_or, Classical.not_not] at hs51; omega
                refine AtL.move (.inr ⟨_, _, _, rfl, rfl, rfl, rfl⟩) rfl rfl ?_
                refine AtL.indexL 2 (o12.rd (i := 0) rfl) Tryd.underlying38 tf_sz9 (.inr ⟨_, _, _, rfl, rfl, rfl, rfl⟩) rfl rfl rfl rfl (by omega) ?_
                refine AtL.load (v := str ((spF 32 (ls.getD 0 [])).getD 2 [])) tf_flat9 (.inr ⟨_, _, _, rfl, rfl, rfl, rfl⟩) rfl rfl (Rd.cell0 (o12.rd (i := 0) rfl) (getD_some [] (by omega)) rfl) ?_
                refine AtL.eqs (a := ((spF 32 (ls.getD 0 [])).getD 2 [])) (b := []) (.inr ⟨_, _, _, rfl, rfl, rfl, rfl⟩) rfl rfl rfl ?_
                refine AtL.pickF (.inl rfl) rfl rfl rfl ?_
                exact J _ (by exact ⟨(boolIs (by clear J; first | (simp [hs51]; done) | (simp_all; done) | grind)), rfl, rfl, rfl, trivial⟩)
            · skip
              refine AtL.move (.inl rfl) rfl rfl ?_
              refine AtL.join 6 (E' := [(63, .bool (decide (((((¬ (((spF 32 (ls.getD 0 [])).length : Int) = 3)) ∨ (((spF 32 (ls.getD 0 [])).getD 0 []) = [])) ∨ (((spF 32 (ls.getD 0 [])).getD 1 []) = [])) ∨ (((spF 32 (ls.getD 0 [])).getD 2 []) = [])) ∨ ((wordF ((spF 32 (ls.getD 0 [])).getD 0 []) 16) = false)))), (2, .pointer (some ⟨b1, 0, none⟩)), (4, .slice A2 ls.length C3), (6, .slice A8 (spF 32 (ls.getD 0 [])).length C9)]) (H' := s11 :: s5 :: [(b1, .cells #[str [], str [], .int .i64 0, .slice none 0 0] 24 (0, 0))] :: H) (fun J => ?_) ?_
              · refine AtL.split (t := 57) rfl ?_ ?_
                · intro hs57
                  have hs57 : (((¬ (((spF 32 (ls.getD 0 [])).length : Int) = 3)) ∨ (((spF 32 (ls.getD 0 [])).getD 0 []) = [])) ∨ (((spF 32 (ls.getD 0 [])).getD 1 []) = [])) ∨ (((spF 32 (ls.getD 0 [])).getD 2 []) = []) := of_decide_eq_true hs57
                  refine AtL.skipped rfl rfl rfl rfl rfl rfl ?_
                  refine AtL.skipped rfl rfl rfl rfl rfl rfl ?_
                  refine AtL.skipped rfl rfl rfl rfl rfl rfl ?_
                  refine AtL.skipped rfl rfl rfl rfl rfl rfl ?_
                  refine AtL.skipped rfl rfl rfl rfl rfl rfl ?_
                  refine AtL.pickT (.inl rfl) rfl rfl rfl ?_
                  exact J _ (by exact ⟨(boolIs (by clear J; first | (simp [hs57]; done) | (simp_all; done) | grind)), rfl, rfl, rfl, trivial⟩)
                · intro hs57
                  have hs57 : ¬ ((((¬ (((spF 32 (ls.getD 0 [])).length : Int) = 3)) ∨ (((spF 32 (ls.getD 0 [])).getD 0 []) = [])) ∨ (((spF 32 (ls.getD 0 [])).getD 1 []) = [])) ∨ (((spF 32 (ls.getD 0 [])).getD 2 []) = [])) := of_decide_eq_false hs57
                  have hW3 : (spF 32 (ls.getD 0 [])).length = 3 := by simp only [not_or, Classical.not_not] at hs57; omega
                  refine AtL.move (.inr ⟨_, _, _, rfl, rfl, rfl, rfl⟩) rfl rfl ?_
                  refine AtL.indexL 0 (o12.rd (i := 0) rfl) Tryd.underlying38 tf_sz9 (.inr ⟨_, _, _, rfl, rfl, rfl, rfl⟩) rfl rfl rfl rfl (by omega) ?_
                  refine AtL.load (v := str ((spF 32 (ls.getD 0 [])).getD 0 [])) tf_flat9 (.inr ⟨_, _, _, rfl, rfl, rfl, rfl⟩) rfl rfl (Rd.cell0 (o12.rd (i := 0) rfl) (getD_some [] (by omega)) rfl) ?_
                  refine AtL.call tf_body75 (.inr ⟨_, _, _, rfl, rfl, rfl, rfl⟩) rfl rfl (word_ok (l := ((spF 32 (ls.getD 0 [])).getD 0 [])) (by have := hw ((spF 32 (ls.getD 0 [])).getD 0 []) (getD_mem (l := spF 32 (ls.getD 0 [])) (i := 0) (by omega)); omega) 16) ?_
                  rintro _ _ ⟨rfl, rfl⟩
                  refine AtL.not (.inr ⟨_, _, _, rfl, rfl, rfl, rfl⟩) rfl rfl ?_
                  refine AtL.pickF (.inl rfl) rfl rfl rfl ?_
                  exact J _ (by exact ⟨(boolIs (by clear J; first | (simp [hs57]; done) | (simp_all; done) | grind)), rfl, rfl, rfl, trivial⟩)
              · skip
                refine AtL.done ?_
                refine At.cond rfl ?_ ?_
                · intro hc3
                  have hc3 : ((((¬ (((spF 32 (ls.getD 0 [])).length : Int) = 3)) ∨ (((spF 32 (ls.getD 0 [])).getD 0 []) = [])) ∨ (((spF 32 (ls.getD 0 [])).getD 1 []) = [])) ∨ (((spF 32 (ls.getD 0 [])).getD 2 []) = [])) ∨ ((wordF ((spF 32 (ls.getD 0 [])).getD 0 []) 16) = false) := of_decide_eq_true hc3
                  refine At.seq ?_
                  refine At.region ?_
                  refine AtL.build (cs := [str [], str [], .int .i64 0, .slice none 0 0]) tf_lay24 (.inl rfl) rfl rfl rfl ?_
                  refine AtL.store (H' := s11 :: s5 :: [(b1, .cells #[str [], str [], .int .i64 0, .slice none 0 0] 24 (0, 0))] :: H) 2 0 tf_sz24 (.inl rfl) rfl rfl rfl rfl rfl rfl rfl rfl rfl ?_
                  refine AtL.assign (.inl rfl) rfl rfl ?_
                  refine AtL.done ?_
                  refine At.nil ?_
                  have hp : parseF b = (.zero, 400) := by rw [hp0, headF_eq, if_pos (by rcases hc3 with (((h3 | h3) | h3) | h3) | h3; exact .inl (by omega); exact .inr (.inl h3); exact .inr (.inr (.inl h3)); exact .inr (.inr (.inr (.inl h3))); exact .inr (.inr (.inr (.inr h3))))]
                  exact At.retMP (vs := [.agg #[str [], str [], .int .i64 0, .slice none 0 0], .int .i64 400]) (H2 := [] :: H) [0] 4 rfl rfl Tryd.func41 rfl ⟨⟨_, rfl, LoadsTo.agg (cs := [str [], str [], .int .i64 0, .slice none 0 0]) tf_agg24 rfl (cellsOwn 3 0 0 rfl rfl rfl)⟩, rfl, trivial⟩ (⟨Sl.nil, by rw [hp]; rfl, by rw [hp]; rfl, rfl⟩)
                · intro hc3
                  have hc3 : ¬ (((((¬ (((spF 32 (ls.getD 0 [])).length : Int) = 3)) ∨ (((spF 32 (ls.getD 0 [])).getD 0 []) = [])) ∨ (((spF 32 (ls.getD 0 [])).getD 1 []) = [])) ∨ (((spF 32 (ls.getD 0 [])).getD 2 []) = [])) ∨ ((wordF ((spF 32 (ls.getD 0 [])).getD 0 []) 16) = false)) := of_decide_eq_false hc3
                  have hW3 : (spF 32 (ls.getD 0 [])).length = 3 := by simp only [not_or] at hc3; omega
                  have hn3 : ¬ (¬ (spF 32 (ls.getD 0 [])).length = 3 ∨ (spF 32 (ls.getD 0 [])).getD 0 [] = [] ∨ (spF 32 (ls.getD 0 [])).getD 1 [] = [] ∨ (spF 32 (ls.getD 0 [])).getD 2 [] = [] ∨ wordF ((spF 32 (ls.getD 0 [])).getD 0 []) 16 = false) := by simp only [not_or] at hc3 ⊢; exact ⟨by omega, hc3.1.1.1.2, hc3.1.1.2, hc3.1.2, by simpa using hc3.2⟩
                  refine At.skip ?_
                  refine At.seq ?_
                  refine At.region ?_
                  refine AtL.move (.inl rfl) rfl rfl ?_
                  refine AtL.indexL 2 (o12.rd (i := 0) rfl) Tryd.underlying38 tf_sz9 (.inl rfl) rfl rfl rfl rfl (by omega) ?_
                  refine AtL.load (v := str ((spF 32 (ls.getD 0 [])).getD 2 [])) tf_flat9 (.inl rfl) rfl rfl (Rd.cell0 (o12.rd (i := 0) rfl) (getD_some [] (by omega)) rfl) ?_
                  rcases Bool.eq_false_or_eq_true (verF ((spF 32 (ls.getD 0 [])).getD 2 [])) with hver | hver
                  · skip
                    refine AtL.call tf_body76 (.inl rfl) rfl rfl (version_yes (l := (spF 32 (ls.getD 0 [])).getD 2 []) (by have := hw ((spF 32 (ls.getD 0 [])).getD 2 []) (getD_mem (l := spF 32 (ls.getD 0 [])) (i := 2) (by omega)); omega) hver) ?_
                    rintro _ _ ⟨rfl, rfl⟩
                    refine AtL.move (.inl rfl) rfl rfl ?_
                    refine AtL.extract (.inl rfl) rfl rfl rfl ?_
                    refine AtL.extract (.inl rfl) rfl rfl rfl ?_
                    refine AtL.extract (.inl rfl) rfl rfl rfl ?_
                    refine AtL.assign (.inl rfl) rfl rfl ?_
                    refine AtL.assign (.inl rfl) rfl rfl ?_
                    refine AtL.assign (.inl rfl) rfl rfl ?_
                    refine AtL.done ?_
                    refine At.seq ?_
                    refine At.block ?_
                    refine At.seq ?_
                    refine At.region ?_
                    refine AtL.move (.inl rfl) rfl rfl ?_
                    refine AtL.not (.inl rfl) rfl rfl ?_
                    refine AtL.assign (.inl rfl) rfl rfl ?_
                    refine AtL.done ?_
                    refine At.condF rfl ?_
                    refine At.seq ?_
                    refine At.region ?_
                    refine AtL.move (.inl rfl) rfl rfl ?_
                    refine AtL.nei (.inl rfl) rfl rfl rfl ?_
                    refine AtL.move (.inl rfl) rfl rfl ?_
                    refine AtL.join 3 (E' := [(83, .bool (decide ((¬ (((((spF 32 (ls.getD 0 [])).getD 2 []).getD 5 0 - 48).toNat : Int) = 1)) ∨ (1 < ((((spF 32 (ls.getD 0 [])).getD 2 []).getD 7 0 - 48).toNat : Int))))), (2, .pointer (some ⟨b1, 0, none⟩)), (4, .slice A2 ls.length C3), (6, .slice A8 (spF 32 (ls.getD 0 [])).length C9), (8, .int .u8 ((((spF 32 (ls.getD 0 [])).getD 2 []).getD 7 0 - 48).toNat : Int))]) (H' := s11 :: s5 :: [(b1, .cells #[str [], str [], .int .i64 0, .slice none 0 0] 24 (0, 0))] :: H) (fun J => ?_) ?_
                    · refine AtL.split (t := 80) rfl ?_ ?_
                      · intro hs80
                        have hs80 : ¬ (((((spF 32 (ls.getD 0 [])).getD 2 []).getD 5 0 - 48).toNat : Int) = 1) := of_decide_eq_false (bnot_true hs80)
                        refine AtL.skipped rfl rfl rfl rfl rfl rfl ?_
                        refine AtL.skipped rfl rfl rfl rfl rfl rfl ?_
                        refine AtL.pickT (.inl rfl) rfl rfl rfl ?_
                        exact J _ (by exact ⟨(boolIs (by clear J; first | (simp [hs80]; done) | (simp_all; done) | grind)), rfl, rfl, rfl, rfl, trivial⟩)
                      · intro hs80
                        have hs80 : ((((spF 32 (ls.getD 0 [])).getD 2 []).getD 5 0 - 48).toNat : Int) = 1 := of_decide_eq_true (bnot_false hs80)
                        refine AtL.move (.inr ⟨_, _, _, rfl, rfl, rfl, rfl⟩) rfl rfl ?_
                        refine AtL.gtr (.inr ⟨_, _, _, rfl, rfl, rfl, rfl⟩) rfl rfl rfl ?_
                        refine AtL.pickF (.inl rfl) rfl rfl rfl ?_
                        exact J _ (by exact ⟨(boolIs (by clear J; first | (simp [hs80]; done) | (simp_all; done) | grind)), rfl, rfl, rfl, rfl, trivial⟩)
                    · skip
                      refine AtL.assign (.inl rfl) rfl rfl ?_
                      refine AtL.done ?_
                      refine At.cond rfl ?_ ?_
                      · intro hc5
                        have hc5 : (¬ (((((spF 32 (ls.getD 0 [])).getD 2 []).getD 5 0 - 48).toNat : Int) = 1)) ∨ (1 < ((((spF 32 (ls.getD 0 [])).getD 2 []).getD 7 0 - 48).toNat : Int)) := of_decide_eq_true hc5
                        refine At.seq ?_
                        refine At.region ?_
                        refine AtL.build (cs := [str [], str [], .int .i64 0, .slice none 0 0]) tf_lay24 (.inl rfl) rfl rfl rfl ?_
                        refine AtL.store (H' := s11 :: s5 :: [(b1, .cells #[str [], str [], .int .i64 0, .slice none 0 0] 24 (0, 0))] :: H) 2 0 tf_sz24 (.inl rfl) rfl rfl rfl rfl rfl rfl rfl rfl rfl ?_
                        refine AtL.assign (.inl rfl) rfl rfl ?_
                        refine AtL.done ?_
                        refine At.nil ?_
                        have hp : parseF b = (.zero, 505) := by rw [hp0, headF_eq, if_neg hn3, if_neg (by rw [hver]; simp), if_pos (by rw [← (ver_dig hver).1, ← (ver_dig hver).2]; exact hc5)]
                        exact At.retMP (vs := [.agg #[str [], str [], .int .i64 0, .slice none 0 0], .int .i64 505]) (H2 := [] :: H) [0] 4 rfl rfl Tryd.func41 rfl ⟨⟨_, rfl, LoadsTo.agg (cs := [str [], str [], .int .i64 0, .slice none 0 0]) tf_agg24 rfl (cellsOwn 3 0 0 rfl rfl rfl)⟩, rfl, trivial⟩ (⟨Sl.nil, by rw [hp]; rfl, by rw [hp]; rfl, rfl⟩)
                      · intro hc5
                        have hc5 : ¬ ((¬ (((((spF 32 (ls.getD 0 [])).getD 2 []).getD 5 0 - 48).toNat : Int) = 1)) ∨ (1 < ((((spF 32 (ls.getD 0 [])).getD 2 []).getD 7 0 - 48).toNat : Int))) := of_decide_eq_false hc5
                        refine At.seq ?_
                        refine At.region ?_
                        refine AtL.move (.inl rfl) rfl rfl ?_
                        refine AtL.indexL 1 (o12.rd (i := 0) rfl) Tryd.underlying38 tf_sz9 (.inl rfl) rfl rfl rfl rfl (by omega) ?_
                        refine AtL.load (v := str ((spF 32 (ls.getD 0 [])).getD 1 [])) tf_flat9 (.inl rfl) rfl rfl (Rd.cell0 (o12.rd (i := 0) rfl) (getD_some [] (by omega)) rfl) ?_
                        refine AtL.lenS (l := ((spF 32 (ls.getD 0 [])).getD 1 [])) Tryd.underlying9 (.inl rfl) rfl rfl ?_
                        refine AtL.gtr (.inl rfl) rfl rfl rfl ?_
                        refine AtL.assign (.inl rfl) rfl rfl ?_
                        refine AtL.done ?_
                        refine At.cond rfl ?_ ?_
                        · intro hc6
                          have hc6 : 2048 < (((spF 32 (ls.getD 0 [])).getD 1 []).length : Int) := of_decide_eq_true hc6
                          refine At.seq ?_
                          refine At.region ?_
                          refine AtL.build (cs := [str [], str [], .int .i64 0, .slice none 0 0]) tf_lay24 (.inl rfl) rfl rfl rfl ?_
                          refine AtL.store (H' := s11 :: s5 :: [(b1, .cells #[str [], str [], .int .i64 0, .slice none 0 0] 24 (0, 0))] :: H) 2 0 tf_sz24 (.inl rfl) rfl rfl rfl rfl rfl rfl rfl rfl rfl ?_
                          refine AtL.assign (.inl rfl) rfl rfl ?_
                          refine AtL.done ?_
                          refine At.nil ?_
                          have hp : parseF b = (.zero, 414) := by rw [hp0, headF_eq, if_neg hn3, if_neg (by rw [hver]; simp), if_neg (by rw [← (ver_dig hver).1, ← (ver_dig hver).2]; exact hc5), if_pos (by omega)]
                          exact At.retMP (vs := [.agg #[str [], str [], .int .i64 0, .slice none 0 0], .int .i64 414]) (H2 := [] :: H) [0] 4 rfl rfl Tryd.func41 rfl ⟨⟨_, rfl, LoadsTo.agg (cs := [str [], str [], .int .i64 0, .slice none 0 0]) tf_agg24 rfl (cellsOwn 3 0 0 rfl rfl rfl)⟩, rfl, trivial⟩ (⟨Sl.nil, by rw [hp]; rfl, by rw [hp]; rfl, rfl⟩)
                        · intro hc6
                          have hc6 : ¬ (2048 < (((spF 32 (ls.getD 0 [])).getD 1 []).length : Int)) := of_decide_eq_false hc6
                          refine At.seq ?_
                          refine At.region ?_
                          refine AtL.move (.inl rfl) rfl rfl ?_
                          refine AtL.indexL 1 (o12.rd (i := 0) rfl) Tryd.underlying38 tf_sz9 (.inl rfl) rfl rfl rfl rfl (by omega) ?_
                          refine AtL.load (v := str ((spF 32 (ls.getD 0 [])).getD 1 [])) tf_flat9 (.inl rfl) rfl rfl (Rd.cell0 (o12.rd (i := 0) rfl) (getD_some [] (by omega)) rfl) ?_
                          refine AtL.call tf_body77 (.inl rfl) rfl rfl (target_ok (l := ((spF 32 (ls.getD 0 [])).getD 1 [])) (by have := hw ((spF 32 (ls.getD 0 [])).getD 1 []) (getD_mem (l := spF 32 (ls.getD 0 [])) (i := 1) (by omega)); omega)) ?_
                          rintro _ _ ⟨rfl, rfl⟩
                          refine AtL.not (.inl rfl) rfl rfl ?_
                          refine AtL.assign (.inl rfl) rfl rfl ?_
                          refine AtL.done ?_
                          refine At.cond rfl ?_ ?_
                          · intro hc7
                            have hc7 : (targetF ((spF 32 (ls.getD 0 [])).getD 1 [])) = false := bnot_true hc7
                            refine At.seq ?_
                            refine At.region ?_
                            refine AtL.build (cs := [str [], str [], .int .i64 0, .slice none 0 0]) tf_lay24 (.inl rfl) rfl rfl rfl ?_
                            refine AtL.store (H' := s11 :: s5 :: [(b1, .cells #[str [], str [], .int .i64 0, .slice none 0 0] 24 (0, 0))] :: H) 2 0 tf_sz24 (.inl rfl) rfl rfl rfl rfl rfl rfl rfl rfl rfl ?_
                            refine AtL.assign (.inl rfl) rfl rfl ?_
                            refine AtL.done ?_
                            refine At.nil ?_
                            have hp : parseF b = (.zero, 400) := by rw [hp0, headF_eq, if_neg hn3, if_neg (by rw [hver]; simp), if_neg (by rw [← (ver_dig hver).1, ← (ver_dig hver).2]; exact hc5), if_neg (by omega), if_pos (by simpa using hc7)]
                            exact At.retMP (vs := [.agg #[str [], str [], .int .i64 0, .slice none 0 0], .int .i64 400]) (H2 := [] :: H) [0] 4 rfl rfl Tryd.func41 rfl ⟨⟨_, rfl, LoadsTo.agg (cs := [str [], str [], .int .i64 0, .slice none 0 0]) tf_agg24 rfl (cellsOwn 3 0 0 rfl rfl rfl)⟩, rfl, trivial⟩ (⟨Sl.nil, by rw [hp]; rfl, by rw [hp]; rfl, rfl⟩)
                          · intro hc7
                            have hc7 : (targetF ((spF 32 (ls.getD 0 [])).getD 1 [])) = true := bnot_false hc7
                            refine At.skip ?_
                            refine At.inBlock ?_
                            refine At.seq ?_
                            have hB14 := u8_le ((((spF 32 (ls.getD 0 [])).getD 2 []).getD 7 0 - 48))
                            refine At.draw (es := [9, 10]) (pv := [(0, .slice A8 (spF 32 (ls.getD 0 [])).length C9), (1, .pointer (some (eaddr A8 (0 * tyS.sz)))), (2, str ((spF 32 (ls.getD 0 [])).getD 0 [])), (3, .slice A8 (spF 32 (ls.getD 0 [])).length C9), (4, .pointer (some (eaddr A8 (1 * tyS.sz)))), (5, str ((spF 32 (ls.getD 0 [])).getD 1 [])), (6, .int .u8 ((((spF 32 (ls.getD 0 [])).getD 2 []).getD 7 0 - 48).toNat : Int)), (7, .int .i64 ((((spF 32 (ls.getD 0 [])).getD 2 []).getD 7 0 - 48).toNat : Int)), (8, .agg #[str ((spF 32 (ls.getD 0 [])).getD 0 []), str ((spF 32 (ls.getD 0 [])).getD 1 []), .int .i64 ((((spF 32 (ls.getD 0 [])).getD 2 []).getD 7 0 - 48).toNat : Int), .slice none 0 0])]) tf_mixed (by kernel_rfl) (by kernel_rfl) (by kernel_rfl) ?_
                            refine ⟨⟨.inr ⟨_, rfl, rfl, .inl ⟨rfl, Do.move rfl⟩⟩, .inr ⟨_, rfl, rfl, .inl ⟨rfl, Do.indexL 0 (o12.rd (i := 0) rfl) Tryd.underlying38 tf_sz9 rfl rfl rfl (by omega)⟩⟩, .inr ⟨_, rfl, rfl, .inl ⟨rfl, Do.load (v := str ((spF 32 (ls.getD 0 [])).getD 0 [])) tf_flat9 rfl (Rd.cell0 (o12.rd (i := 0) rfl) (getD_some [] (by omega)) rfl)⟩⟩, .inr ⟨_, rfl, rfl, .inl ⟨rfl, Do.move rfl⟩⟩, .inr ⟨_, rfl, rfl, .inl ⟨rfl, Do.indexL 1 (o12.rd (i := 0) rfl) Tryd.underlying38 tf_sz9 rfl rfl rfl (by omega)⟩⟩, .inr ⟨_, rfl, rfl, .inl ⟨rfl, Do.load (v := str ((spF 32 (ls.getD 0 [])).getD 1 [])) tf_flat9 rfl (Rd.cell0 (o12.rd (i := 0) rfl) (getD_some [] (by omega)) rfl)⟩⟩, .inr ⟨_, rfl, rfl, .inl ⟨rfl, Do.move rfl⟩⟩, .inr ⟨_, rfl, rfl, .inl ⟨rfl, Do.convInt (z := ((((spF 32 (ls.getD 0 [])).getD 2 []).getD 7 0 - 48).toNat : Int)) Tryd.underlying5 Tryd.underlying3 rfl (u8_i64 _)⟩⟩, .inr ⟨_, rfl, rfl, .inl ⟨rfl, Do.build (cs := [str ((spF 32 (ls.getD 0 [])).getD 0 []), str ((spF 32 (ls.getD 0 [])).getD 1 []), .int .i64 ((((spF 32 (ls.getD 0 [])).getD 2 []).getD 7 0 - 48).toNat : Int), .slice none 0 0]) tf_lay24 rfl rfl⟩⟩, trivial⟩, rfl, rfl, by kernel_rfl, _, rfl, rfl, rfl, _, Do.alloc tf_zero24 (cs := #[str [], str [], .int .i64 0, .slice none 0 0]) rfl, ?_⟩
                            rintro _ _ ⟨b15, rfl, rfl⟩
                            refine ⟨[], rfl, ?_⟩
                            refine ⟨⟨.inr ⟨_, rfl, rfl, .inl ⟨rfl, Do.move rfl⟩⟩, .inr ⟨_, rfl, rfl, .inl ⟨rfl, Do.indexL 0 (o12.rd (i := 1) rfl) Tryd.underlying38 tf_sz9 rfl rfl rfl (by omega)⟩⟩, .inr ⟨_, rfl, rfl, .inl ⟨rfl, Do.load (v := str ((spF 32 (ls.getD 0 [])).getD 0 [])) tf_flat9 rfl (Rd.cell0 (o12.rd (i := 1) rfl) (getD_some [] (by omega)) rfl)⟩⟩, .inr ⟨_, rfl, rfl, .inl ⟨rfl, Do.move rfl⟩⟩, .inr ⟨_, rfl, rfl, .inl ⟨rfl, Do.indexL 1 (o12.rd (i := 1) rfl) Tryd.underlying38 tf_sz9 rfl rfl rfl (by omega)⟩⟩, .inr ⟨_, rfl, rfl, .inl ⟨rfl, Do.load (v := str ((spF 32 (ls.getD 0 [])).getD 1 [])) tf_flat9 rfl (Rd.cell0 (o12.rd (i := 1) rfl) (getD_some [] (by omega)) rfl)⟩⟩, .inr ⟨_, rfl, rfl, .inl ⟨rfl, Do.move rfl⟩⟩, .inr ⟨_, rfl, rfl, .inl ⟨rfl, Do.convInt (z := ((((spF 32 (ls.getD 0 [])).getD 2 []).getD 7 0 - 48).toNat : Int)) Tryd.underlying5 Tryd.underlying3 rfl (u8_i64 _)⟩⟩, .inr ⟨_, rfl, rfl, .inl ⟨rfl, Do.build (cs := [str ((spF 32 (ls.getD 0 [])).getD 0 []), str ((spF 32 (ls.getD 0 [])).getD 1 []), .int .i64 ((((spF 32 (ls.getD 0 [])).getD 2 []).getD 7 0 - 48).toNat : Int), .slice none 0 0]) tf_lay24 rfl rfl⟩⟩, trivial⟩, rfl, rfl, by kernel_rfl, _, rfl, rfl, rfl, _, Do.store (H' := [(b15, .cells #[str ((spF 32 (ls.getD 0 [])).getD 0 []), str ((spF 32 (ls.getD 0 [])).getD 1 []), .int .i64 ((((spF 32 (ls.getD 0 [])).getD 2 []).getD 7 0 - 48).toNat : Int), .slice none 0 0] 24 (0, 0))] :: s11 :: s5 :: [(b1, .cells #[str [], str [], .int .i64 0, .slice none 0 0] 24 (0, 0))] :: H) 0 0 tf_sz24 rfl rfl rfl rfl rfl rfl rfl rfl rfl, ?_⟩
                            rintro _ _ ⟨rfl, rfl⟩
                            refine ⟨[], rfl, ?_⟩
                            refine ⟨⟨.inl (by kernel_rfl), .inl (by kernel_rfl), .inl (by kernel_rfl), .inl (by kernel_rfl), .inl (by kernel_rfl), .inl (by kernel_rfl), .inl (by kernel_rfl), .inl (by kernel_rfl), .inl (by kernel_rfl), trivial⟩, by kernel_rfl, ?_⟩
                            refine At.mono (E' := [(2, .pointer (some ⟨b1, 0, none⟩)), (4, .slice A2 ls.length C3), (9, .pointer (some ⟨b15, 0, none⟩))]) ⟨rfl, rfl, rfl, trivial⟩ ?_
                            refine At.seq ?_
                            refine At.seq ?_
                            refine At.region ?_
                            refine AtL.move (.inl rfl) rfl rfl ?_
                            have hleo19 := Own.le_cap o6
                            refine AtL.sliceO 1 ls.length C3 o6 (evBound_some rfl rfl) rfl rfl (by intro h; cases h) (by omega) (Nat.le_refl _) (by omega) (Nat.le_refl _) Tryd.underlying38 tf_sz9 (.inl rfl) rfl rfl ?_
                            rw [show subl ls 1 ls.length = ls.drop 1 from by unfold subl; rw [List.take_of_length_le (by simp)]]
                            intro A17 C18 o19
                            refine AtL.lenL Tryd.underlying38 (.inl rfl) rfl rfl ?_
                            refine AtL.move (.inl rfl) rfl rfl ?_
                            refine AtL.done ?_
                            refine At.block ?_
                            refine At.nil ?_
                            refine At.pick (H' := [(b15, .cells #[str ((spF 32 (ls.getD 0 [])).getD 0 []), str ((spF 32 (ls.getD 0 [])).getD 1 []), .int .i64 ((((spF 32 (ls.getD 0 [])).getD 2 []).getD 7 0 - 48).toNat : Int), .slice none 0 0] 24 (0, 0))] :: [] :: s5 :: [(b1, .cells #[str [], str [], .int .i64 0, .slice none 0 0] 24 (0, 0))] :: H) [1, 0, 3, 4] 5 rfl rfl ?_
                            refine At.loop2 (fun (k : Nat) (x : Sl tyField 67) => [(2, .pointer (some ⟨b1, 0, none⟩)), (9, .pointer (some ⟨b15, 0, none⟩)), (109, .slice A17 (ls.drop 1).length C18), (110, .int .i64 ((ls.drop 1).length : Int)), (111, .int .i64 (k : Int))]) (fun (k : Nat) (x : Sl tyField 67) => [(b15, .cells #[str ((spF 32 (ls.getD 0 [])).getD 0 []), str ((spF 32 (ls.getD 0 [])).getD 1 []), .int .i64 ((((spF 32 (ls.getD 0 [])).getD 2 []).getD 7 0 - 48).toNat : Int), .slice x.A x.l.length x.C] 24 (0, 0))] :: x.s :: s5 :: [(b1, .cells #[str [], str [], .int .i64 0, .slice none 0 0] 24 (0, 0))] :: H) (fun (k : Nat) (x : Sl tyField 67) => k ≤ (ls.drop 1).length ∧ (x.l.length = k ∧ k ≤ 32) ∧ fieldsF (ls.drop 1) 0 = (match fieldsF ((ls.drop 1).drop k) k with | .inl s => .inl s | .inr fs => .inr (x.l ++ fs)) ∧ (∀ f ∈ x.l, f.1.length ≤ b.length ∧ f.2.length ≤ b.length)) (fun (k : Nat) (x : Sl tyField 67) => (ls.drop 1).length - k) 0 Sl.nil (⟨Nat.zero_le _, ⟨rfl, by decide⟩, by rw [List.drop_zero]; cases fieldsF (ls.drop 1) 0 <;> simp [Sl.nil], fun f hf => absurd hf (by simp [Sl.nil])⟩) ⟨rfl, rfl, rfl, rfl, rfl, trivial⟩ rfl ?_
                            rintro k x ⟨hk, ⟨hxl, hk32⟩, hfl, hxb⟩ ihL1
                            have hcap := Own.cap_le x.own
                            refine At.seq ?_
                            refine At.region ?_
                            refine AtL.lss (.inl rfl) rfl rfl rfl ?_
                            refine AtL.done ?_
                            refine At.seq ?_
                            refine At.cond rfl ?_ ?_
                            · intro hc8
                              have hc8 : (k : Int) < ((ls.drop 1).length : Int) := of_decide_eq_true hc8
                              have hst := fields_step (L := ls.drop 1) (k := k) (by omega)
                              have hlk := hlb.1 ((ls.drop 1).getD k []) (List.mem_of_mem_drop (getD_mem (l := ls.drop 1) (i := k) (by omega)))
                              have hcl := cut_le 58 ((ls.drop 1).getD k [])
                              have htl := trimS_le (Lib.cut ((ls.drop 1).getD k []) [58]).2.1 [9, 32]
                              refine At.skip ?_
                              refine At.seq ?_
                              refine At.block ?_
                              refine At.seq ?_
                              refine At.region ?_
                              refine AtL.indexL k (o19.rd (i := 2) rfl) Tryd.underlying38 tf_sz9 (.inl rfl) rfl rfl rfl rfl (by omega) ?_
                              refine AtL.load (v := str ((ls.drop 1).getD k [])) tf_flat9 (.inl rfl) rfl rfl (Rd.cell0 (o19.rd (i := 2) rfl) (getD_some [] (by omega)) rfl) ?_
                              refine AtL.assign (.inl rfl) rfl rfl ?_
                              refine AtL.done ?_
                              refine At.seq ?_
                              refine At.seq ?_
                              refine At.region ?_
                              refine AtL.fieldAddrB tf_fo24_3 (.inl rfl) rfl rfl rfl ?_
                              refine AtL.load tf_flat22 (.inl rfl) rfl rfl (Cell.own 0 0 rfl rfl rfl) ?_
                              refine AtL.lenL Tryd.underlying22 (.inl rfl) rfl rfl ?_
                              refine AtL.eqi (.inl rfl) rfl rfl rfl ?_
                              refine AtL.done ?_
                              refine At.cond rfl ?_ ?_
                              · intro hc9
                                have hc9 : (x.l.length : Int) = 32 := of_decide_eq_true hc9
                                refine At.seq ?_
                                refine At.region ?_
                                refine AtL.build (cs := [str [], str [], .int .i64 0, .slice none 0 0]) tf_lay24 (.inl rfl) rfl rfl rfl ?_
                                refine AtL.store (H' := [(b15, .cells #[str ((spF 32 (ls.getD 0 [])).getD 0 []), str ((spF 32 (ls.getD 0 [])).getD 1 []), .int .i64 ((((spF 32 (ls.getD 0 [])).getD 2 []).getD 7 0 - 48).toNat : Int), .slice x.A x.l.length x.C] 24 (0, 0))] :: x.s :: s5 :: [(b1, .cells #[str [], str [], .int .i64 0, .slice none 0 0] 24 (0, 0))] :: H) 3 0 tf_sz24 (.inl rfl) rfl rfl rfl rfl rfl rfl rfl rfl rfl ?_
                                refine AtL.assign (.inl rfl) rfl rfl ?_
                                refine AtL.done ?_
                                refine At.nil ?_
                                have hp : parseF b = (.zero, 431) := by rw [hp0, headF_eq, if_neg hn3, if_neg (by rw [hver]; simp), if_neg (by rw [← (ver_dig hver).1, ← (ver_dig hver).2]; exact hc5), if_neg (by omega), if_neg (by simpa using hc7), hfl, hst, if_pos (by omega)]
                                exact At.retMP (vs := [.agg #[str [], str [], .int .i64 0, .slice none 0 0], .int .i64 431]) (H2 := [] :: H) [0] 5 rfl rfl Tryd.func41 rfl ⟨⟨_, rfl, LoadsTo.agg (cs := [str [], str [], .int .i64 0, .slice none 0 0]) tf_agg24 rfl (cellsOwn 4 0 0 rfl rfl rfl)⟩, rfl, trivial⟩ (⟨Sl.nil, by rw [hp]; rfl, by rw [hp]; rfl, rfl⟩)
                              · intro hc9
                                have hc9 : ¬ ((x.l.length : Int) = 32) := of_decide_eq_false hc9
                                refine At.skip ?_
                                refine At.seq ?_
                                refine At.region ?_
                                refine AtL.move (.inl rfl) rfl rfl ?_
                                refine AtL.call tf_body56 (.inl rfl) rfl rfl (cut_ok (x := ((ls.drop 1).getD k [])) 58 (by omega) T) ?_
                                rintro _ _ ⟨rfl, rfl⟩
                                refine AtL.move (.inl rfl) rfl rfl ?_
                                refine AtL.extract (.inl rfl) rfl rfl rfl ?_
                                refine AtL.extract (.inl rfl) rfl rfl rfl ?_
                                refine AtL.extract (.inl rfl) rfl rfl rfl ?_
                                refine AtL.assign (.inl rfl) rfl rfl ?_
                                refine AtL.assign (.inl rfl) rfl rfl ?_
                                refine AtL.assign (.inl rfl) rfl rfl ?_
                                refine AtL.done ?_
                                refine At.seq ?_
                                refine At.region ?_
                                refine AtL.move (.inl rfl) rfl rfl ?_
                                refine AtL.call tf_body78 (.inl rfl) rfl rfl (trim_ok (x := (Lib.cut ((ls.drop 1).getD k []) [58]).2.1) (cs := [9, 32]) (by omega) (by decide) (by decide)) ?_
                                rintro _ _ ⟨rfl, rfl⟩
                                refine AtL.assign (.inl rfl) rfl rfl ?_
                                refine AtL.done ?_
                                refine At.seq ?_
                                refine At.seq ?_
                                refine At.region ?_
                                refine AtL.move (.inl rfl) rfl rfl ?_
                                refine AtL.not (.inl rfl) rfl rfl ?_
                                refine AtL.move (.inl rfl) rfl rfl ?_
                                refine AtL.join 4 (E' := [(134, .bool (decide ((((Lib.cut ((ls.drop 1).getD k []) [58]).2.2) = false) ∨ ((wordF ((Lib.cut ((ls.drop 1).getD k []) [58]).1) 64) = false)))), (2, .pointer (some ⟨b1, 0, none⟩)), (9, .pointer (some ⟨b15, 0, none⟩)), (12, str ((Lib.cut ((ls.drop 1).getD k []) [58]).1)), (13, str (Lib.trimS ((Lib.cut ((ls.drop 1).getD k []) [58]).2.1) [9, 32])), (109, .slice A17 (ls.drop 1).length C18), (110, .int .i64 ((ls.drop 1).length : Int)), (111, .int .i64 (k : Int))]) (H' := [(b15, .cells #[str ((spF 32 (ls.getD 0 [])).getD 0 []), str ((spF 32 (ls.getD 0 [])).getD 1 []), .int .i64 ((((spF 32 (ls.getD 0 [])).getD 2 []).getD 7 0 - 48).toNat : Int), .slice x.A x.l.length x.C] 24 (0, 0))] :: x.s :: s5 :: [(b1, .cells #[str [], str [], .int .i64 0, .slice none 0 0] 24 (0, 0))] :: H) (fun J => ?_) ?_
                                · refine AtL.split (t := 130) rfl ?_ ?_
                                  · intro hs130
                                    have hs130 : ((Lib.cut ((ls.drop 1).getD k []) [58]).2.2) = false := bnot_true hs130
                                    refine AtL.skipped rfl rfl rfl rfl rfl rfl ?_
                                    refine AtL.skipped rfl rfl rfl rfl rfl rfl ?_
                                    refine AtL.skipped rfl rfl rfl rfl rfl rfl ?_
                                    refine AtL.pickT (.inl rfl) rfl rfl rfl ?_
                                    exact J _ (by exact ⟨(boolIs (by clear J; first | (simp [hs130]; done) | (simp_all; done) | grind)), rfl, rfl, rfl, rfl, rfl, rfl, rfl, trivial⟩)
                                  · intro hs130
                                    have hs130 : ((Lib.cut ((ls.drop 1).getD k []) [58]).2.2) = true := bnot_false hs130
                                    refine AtL.move (.inr ⟨_, _, _, rfl, rfl, rfl, rfl⟩) rfl rfl ?_
                                    refine AtL.call tf_body75 (.inr ⟨_, _, _, rfl, rfl, rfl, rfl⟩) rfl rfl (word_ok (l := (Lib.cut ((ls.drop 1).getD k []) [58]).1) (by omega) 64) ?_
                                    rintro _ _ ⟨rfl, rfl⟩
                                    refine AtL.not (.inr ⟨_, _, _, rfl, rfl, rfl, rfl⟩) rfl rfl ?_
                                    refine AtL.pickF (.inl rfl) rfl rfl rfl ?_
                                    exact J _ (by exact ⟨(boolIs (by clear J; first | (simp [hs130]; done) | (simp_all; done) | grind)), rfl, rfl, rfl, rfl, rfl, rfl, rfl, trivial⟩)
                                · skip
                                  refine AtL.move (.inl rfl) rfl rfl ?_
                                  refine AtL.join 4 (E' := [(139, .bool (decide (((((Lib.cut ((ls.drop 1).getD k []) [58]).2.2) = false) ∨ ((wordF ((Lib.cut ((ls.drop 1).getD k []) [58]).1) 64) = false)) ∨ ((valueF (Lib.trimS ((Lib.cut ((ls.drop 1).getD k []) [58]).2.1) [9, 32])) = false)))), (2, .pointer (some ⟨b1, 0, none⟩)), (9, .pointer (some ⟨b15, 0, none⟩)), (12, str ((Lib.cut ((ls.drop 1).getD k []) [58]).1)), (13, str (Lib.trimS ((Lib.cut ((ls.drop 1).getD k []) [58]).2.1) [9, 32])), (109, .slice A17 (ls.drop 1).length C18), (110, .int .i64 ((ls.drop 1).length : Int)), (111, .int .i64 (k : Int))]) (H' := [(b15, .cells #[str ((spF 32 (ls.getD 0 [])).getD 0 []), str ((spF 32 (ls.getD 0 [])).getD 1 []), .int .i64 ((((spF 32 (ls.getD 0 [])).getD 2 []).getD 7 0 - 48).toNat : Int), .slice x.A x.l.length x.C] 24 (0, 0))] :: x.s :: s5 :: [(b1, .cells #[str [], str [], .int .i64 0, .slice none 0 0] 24 (0, 0))] :: H) (fun J => ?_) ?_
                                  · refine AtL.split (t := 135) rfl ?_ ?_
                                    · intro hs135
                                      have hs135 : (((Lib.cut ((ls.drop 1).getD k []) [58]).2.2) = false) ∨ ((wordF ((Lib.cut ((ls.drop 1).getD k []) [58]).1) 64) = false) := of_decide_eq_true hs135
                                      refine AtL.skipped rfl rfl rfl rfl rfl rfl ?_
                                      refine AtL.skipped rfl rfl rfl rfl rfl rfl ?_
                                      refine AtL.skipped rfl rfl rfl rfl rfl rfl ?_
                                      refine AtL.pickT (.inl rfl) rfl rfl rfl ?_
                                      exact J _ (by exact ⟨(boolIs (by clear J; first | (simp [hs135]; done) | (simp_all; done) | grind)), rfl, rfl, rfl, rfl, rfl, rfl, rfl, trivial⟩)
                                    · intro hs135
                                      have hs135 : ¬ ((((Lib.cut ((ls.drop 1).getD k []) [58]).2.2) = false) ∨ ((wordF ((Lib.cut ((ls.drop 1).getD k []) [58]).1) 64) = false)) := of_decide_eq_false hs135
                                      refine AtL.move (.inr ⟨_, _, _, rfl, rfl, rfl, rfl⟩) rfl rfl ?_
                                      refine AtL.call tf_body79 (.inr ⟨_, _, _, rfl, rfl, rfl, rfl⟩) rfl rfl (value_ok (l := Lib.trimS ((Lib.cut ((ls.drop 1).getD k []) [58]).2.1) [9, 32]) (by omega)) ?_
                                      rintro _ _ ⟨rfl, rfl⟩
                                      refine AtL.not (.inr ⟨_, _, _, rfl, rfl, rfl, rfl⟩) rfl rfl ?_
                                      refine AtL.pickF (.inl rfl) rfl rfl rfl ?_
                                      exact J _ (by exact ⟨(boolIs (by clear J; first | (simp [hs135]; done) | (simp_all; done) | grind)), rfl, rfl, rfl, rfl, rfl, rfl, rfl, trivial⟩)
                                  · skip
                                    refine AtL.done ?_
                                    refine At.cond rfl ?_ ?_
                                    · intro hc10
                                      have hc10 : ((((Lib.cut ((ls.drop 1).getD k []) [58]).2.2) = false) ∨ ((wordF ((Lib.cut ((ls.drop 1).getD k []) [58]).1) 64) = false)) ∨ ((valueF (Lib.trimS ((Lib.cut ((ls.drop 1).getD k []) [58]).2.1) [9, 32])) = false) := of_decide_eq_true hc10
                                      refine At.seq ?_
                                      refine At.region ?_
                                      refine AtL.build (cs := [str [], str [], .int .i64 0, .slice none 0 0]) tf_lay24 (.inl rfl) rfl rfl rfl ?_
                                      refine AtL.store (H' := [(b15, .cells #[str ((spF 32 (ls.getD 0 [])).getD 0 []), str ((spF 32 (ls.getD 0 [])).getD 1 []), .int .i64 ((((spF 32 (ls.getD 0 [])).getD 2 []).getD 7 0 - 48).toNat : Int), .slice x.A x.l.length x.C] 24 (0, 0))] :: x.s :: s5 :: [(b1, .cells #[str [], str [], .int .i64 0, .slice none 0 0] 24 (0, 0))] :: H) 3 0 tf_sz24 (.inl rfl) rfl rfl rfl rfl rfl rfl rfl rfl rfl ?_
                                      refine AtL.assign (.inl rfl) rfl rfl ?_
                                      refine AtL.done ?_
                                      refine At.nil ?_
                                      have hp : parseF b = (.zero, 400) := by rw [hp0, headF_eq, if_neg hn3, if_neg (by rw [hver]; simp), if_neg (by rw [← (ver_dig hver).1, ← (ver_dig hver).2]; exact hc5), if_neg (by omega), if_neg (by simpa using hc7), hfl, hst, if_neg (by omega), if_pos (by simpa only [or_assoc, Bool.not_eq_true', Bool.not_eq_false, Bool.not_eq_true] using hc10)]
                                      exact At.retMP (vs := [.agg #[str [], str [], .int .i64 0, .slice none 0 0], .int .i64 400]) (H2 := [] :: H) [0] 5 rfl rfl Tryd.func41 rfl ⟨⟨_, rfl, LoadsTo.agg (cs := [str [], str [], .int .i64 0, .slice none 0 0]) tf_agg24 rfl (cellsOwn 4 0 0 rfl rfl rfl)⟩, rfl, trivial⟩ (⟨Sl.nil, by rw [hp]; rfl, by rw [hp]; rfl, rfl⟩)
                                    · intro hc10
                                      have hc10 : ¬ (((((Lib.cut ((ls.drop 1).getD k []) [58]).2.2) = false) ∨ ((wordF ((Lib.cut ((ls.drop 1).getD k []) [58]).1) 64) = false)) ∨ ((valueF (Lib.trimS ((Lib.cut ((ls.drop 1).getD k []) [58]).2.1) [9, 32])) = false)) := of_decide_eq_false hc10
                                      refine At.skip ?_
                                      refine At.region ?_
                                      refine AtL.fieldAddrB tf_fo24_3 (.inl rfl) rfl rfl rfl ?_
                                      refine AtL.load tf_flat22 (.inl rfl) rfl rfl (Cell.own 0 0 rfl rfl rfl) ?_
                                      refine AtL.move (.inl rfl) rfl rfl ?_
                                      refine AtL.move (.inl rfl) rfl rfl ?_
                                      refine AtL.build (cs := [str ((Lib.cut ((ls.drop 1).getD k []) [58]).1), str (Lib.trimS ((Lib.cut ((ls.drop 1).getD k []) [58]).2.1) [9, 32])]) tf_lay67 (.inl rfl) rfl rfl rfl ?_
                                      refine AtL.buildSlice (cs := [str ((Lib.cut ((ls.drop 1).getD k []) [58]).1), str (Lib.trimS ((Lib.cut ((ls.drop 1).getD k []) [58]).2.1) [9, 32])]) Tryd.underlying22 tf_zero67 tf_sz67 rfl rfl (.inl rfl) rfl rfl rfl ?_
                                      intro b20
                                      refine AtL.own1 tyField (l := ([((Lib.cut ((ls.drop 1).getD k []) [58]).1, Lib.trimS ((Lib.cut ((ls.drop 1).getD k []) [58]).2.1) [9, 32])] : List (List UInt8 × List UInt8))) rfl rfl (by first | decide | simp) ?_
                                      intro s21 o22
                                      refine AtL.append (l := x.l) (news := [((Lib.cut ((ls.drop 1).getD k []) [58]).1, Lib.trimS ((Lib.cut ((ls.drop 1).getD k []) [58]).2.1) [9, 32])]) 2 tf_el22 rfl x.own (o22.rd (i := 0) rfl) (by first | omega | (simp only [List.length_append, List.length_cons, List.length_nil]; omega) | (simp; done) | (simp; omega)) (.inl rfl) rfl rfl rfl ?_
                                      intro A23 C24 s25 o26
                                      refine AtL.fieldAddrB tf_fo24_3 (.inl rfl) rfl rfl rfl ?_
                                      refine AtL.store (H' := s21 :: [(b15, .cells #[str ((spF 32 (ls.getD 0 [])).getD 0 []), str ((spF 32 (ls.getD 0 [])).getD 1 []), .int .i64 ((((spF 32 (ls.getD 0 [])).getD 2 []).getD 7 0 - 48).toNat : Int), .slice A23 (x.l ++ ([((Lib.cut ((ls.drop 1).getD k []) [58]).1, Lib.trimS ((Lib.cut ((ls.drop 1).getD k []) [58]).2.1) [9, 32])])).length C24] 24 (0, 0))] :: s25 :: s5 :: [(b1, .cells #[str [], str [], .int .i64 0, .slice none 0 0] 24 (0, 0))] :: H) 1 0 tf_sz22 (.inl rfl) rfl rfl rfl rfl rfl rfl rfl rfl rfl ?_
                                      refine AtL.done ?_
                                      refine At.inBlock ?_
                                      refine At.region ?_
                                      refine AtL.add (z := (k : Int) + 1) (.inl rfl) rfl rfl rfl (w64 (by omega) (by omega)) ?_
                                      refine AtL.move (.inl rfl) rfl rfl ?_
                                      refine AtL.done ?_
                                      refine At.pick (H' := [(b15, .cells #[str ((spF 32 (ls.getD 0 [])).getD 0 []), str ((spF 32 (ls.getD 0 [])).getD 1 []), .int .i64 ((((spF 32 (ls.getD 0 [])).getD 2 []).getD 7 0 - 48).toNat : Int), .slice A23 (x.l ++ ([((Lib.cut ((ls.drop 1).getD k []) [58]).1, Lib.trimS ((Lib.cut ((ls.drop 1).getD k []) [58]).2.1) [9, 32])])).length C24] 24 (0, 0))] :: s25 :: s5 :: [(b1, .cells #[str [], str [], .int .i64 0, .slice none 0 0] 24 (0, 0))] :: H) [1, 2, 3, 4] 5 rfl rfl ?_
                                      refine ihL1 (k + 1) (⟨A23, C24, x.l ++ ([((Lib.cut ((ls.drop 1).getD k []) [58]).1, Lib.trimS ((Lib.cut ((ls.drop 1).getD k []) [58]).2.1) [9, 32])]), s25, o26⟩) (⟨by omega, ⟨by simp; omega, by omega⟩, by rw [hfl, hst, if_neg (by omega), if_neg (by simp only [not_or] at hc10 ⊢; exact ⟨by simpa using hc10.1.1, by simpa using hc10.1.2, by simpa using hc10.2⟩)]; cases fieldsF ((ls.drop 1).drop (k + 1)) (k + 1) <;> simp, fun f hf => by
                                            rcases List.mem_append.1 hf with hf | hf
                                            · exact hxb f hf
                                            · simp only [List.mem_singleton] at hf; subst hf; exact ⟨by dsimp only; omega, by dsimp only; omega⟩⟩) (by omega) _ ?_
                                      exact ⟨rfl, rfl, rfl, rfl, (by first | rfl | exact slLen (by simp [hxl]) | exact intEq (by omega) | exact intEq (by simp [hxl]) | exact slLen (by simp [hxl]; omega)), trivial⟩
                            · intro hc8
                              have hc8 : ¬ ((k : Int) < ((ls.drop 1).length : Int)) := of_decide_eq_false hc8
                              refine At.exit rfl ?_
                              refine At.seq ?_
                              refine At.seq ?_
                              refine At.region ?_
                              refine AtL.loadN (cs := [str ((spF 32 (ls.getD 0 [])).getD 0 []), str ((spF 32 (ls.getD 0 [])).getD 1 []), .int .i64 ((((spF 32 (ls.getD 0 [])).getD 2 []).getD 7 0 - 48).toNat : Int), .slice x.A x.l.length x.C]) tf_agg24 (.inl rfl) rfl rfl rfl (cellsOwn 0 0 0 rfl rfl rfl) ?_
                              refine AtL.call tf_body80 (.inl rfl) rfl rfl (hosts_ok (fs := x.l) (x.own.rd (i := 1) rfl) (by omega) (fun f hf => by have := hxb f hf; omega)) ?_
                              rintro _ _ ⟨rfl, rfl⟩
                              refine AtL.not (.inl rfl) rfl rfl ?_
                              refine AtL.done ?_
                              refine At.cond rfl ?_ ?_
                              · intro hc11
                                have hc11 : (hostsF x.l ((((spF 32 (ls.getD 0 [])).getD 2 []).getD 7 0 - 48).toNat : Int)) = false := bnot_true hc11
                                refine At.seq ?_
                                refine At.region ?_
                                refine AtL.build (cs := [str [], str [], .int .i64 0, .slice none 0 0]) tf_lay24 (.inl rfl) rfl rfl rfl ?_
                                refine AtL.store (H' := [(b15, .cells #[str ((spF 32 (ls.getD 0 [])).getD 0 []), str ((spF 32 (ls.getD 0 [])).getD 1 []), .int .i64 ((((spF 32 (ls.getD 0 [])).getD 2 []).getD 7 0 - 48).toNat : Int), .slice x.A x.l.length x.C] 24 (0, 0))] :: x.s :: s5 :: [(b1, .cells #[str [], str [], .int .i64 0, .slice none 0 0] 24 (0, 0))] :: H) 3 0 tf_sz24 (.inl rfl) rfl rfl rfl rfl rfl rfl rfl rfl rfl ?_
                                refine AtL.assign (.inl rfl) rfl rfl ?_
                                refine AtL.done ?_
                                refine At.nil ?_
                                have hend : fieldsF (ls.drop 1) 0 = .inr x.l := by rw [hfl, List.drop_eq_nil_of_le (by omega), fieldsF]; simp
                                have hp : parseF b = (.zero, 400) := by rw [hp0, headF_eq, if_neg hn3, if_neg (by rw [hver]; simp), if_neg (by rw [← (ver_dig hver).1, ← (ver_dig hver).2]; exact hc5), if_neg (by omega), if_neg (by simpa using hc7), hend]; simp only []; rw [if_neg (by simpa using hc11)]
                                exact At.retMP (vs := [.agg #[str [], str [], .int .i64 0, .slice none 0 0], .int .i64 400]) (H2 := [] :: H) [0] 5 rfl rfl Tryd.func41 rfl ⟨⟨_, rfl, LoadsTo.agg (cs := [str [], str [], .int .i64 0, .slice none 0 0]) tf_agg24 rfl (cellsOwn 4 0 0 rfl rfl rfl)⟩, rfl, trivial⟩ (⟨Sl.nil, by rw [hp]; rfl, by rw [hp]; rfl, rfl⟩)
                              · intro hc11
                                have hc11 : (hostsF x.l ((((spF 32 (ls.getD 0 [])).getD 2 []).getD 7 0 - 48).toNat : Int)) = true := bnot_false hc11
                                refine At.skip ?_
                                refine At.seq ?_
                                refine At.region ?_
                                refine AtL.loadN (cs := [str ((spF 32 (ls.getD 0 [])).getD 0 []), str ((spF 32 (ls.getD 0 [])).getD 1 []), .int .i64 ((((spF 32 (ls.getD 0 [])).getD 2 []).getD 7 0 - 48).toNat : Int), .slice x.A x.l.length x.C]) tf_agg24 (.inl rfl) rfl rfl rfl (cellsOwn 0 0 0 rfl rfl rfl) ?_
                                refine AtL.store (H' := [(b15, .cells #[str ((spF 32 (ls.getD 0 [])).getD 0 []), str ((spF 32 (ls.getD 0 [])).getD 1 []), .int .i64 ((((spF 32 (ls.getD 0 [])).getD 2 []).getD 7 0 - 48).toNat : Int), .slice x.A x.l.length x.C] 24 (0, 0))] :: x.s :: s5 :: [(b1, .cells #[str ((spF 32 (ls.getD 0 [])).getD 0 []), str ((spF 32 (ls.getD 0 [])).getD 1 []), .int .i64 ((((spF 32 (ls.getD 0 [])).getD 2 []).getD 7 0 - 48).toNat : Int), .slice x.A x.l.length x.C] 24 (0, 0))] :: H) 3 0 tf_sz24 (.inl rfl) rfl rfl rfl rfl rfl rfl rfl rfl rfl ?_
                                refine AtL.assign (.inl rfl) rfl rfl ?_
                                refine AtL.done ?_
                                have hend : fieldsF (ls.drop 1) 0 = .inr x.l := by rw [hfl, List.drop_eq_nil_of_le (by omega), fieldsF]; simp
                                have hp : parseF b = (⟨(spF 32 (ls.getD 0 [])).getD 0 [], (spF 32 (ls.getD 0 [])).getD 1 [], ((((spF 32 (ls.getD 0 [])).getD 2 []).getD 7 0 - 48).toNat : Int), x.l⟩, 200) := by rw [hp0, headF_eq, if_neg hn3, if_neg (by rw [hver]; simp), if_neg (by rw [← (ver_dig hver).1, ← (ver_dig hver).2]; exact hc5), if_neg (by omega), if_neg (by simpa using hc7), hend]; simp only []; rw [if_pos (by simpa using hc11)]
                                exact At.retMP (vs := [.agg #[str ((spF 32 (ls.getD 0 [])).getD 0 []), str ((spF 32 (ls.getD 0 [])).getD 1 []), .int .i64 ((((spF 32 (ls.getD 0 [])).getD 2 []).getD 7 0 - 48).toNat : Int), .slice x.A x.l.length x.C], .int .i64 200]) (H2 := x.s :: H) [1] 4 rfl rfl Tryd.func41 rfl ⟨⟨_, rfl, LoadsTo.agg (cs := [str ((spF 32 (ls.getD 0 [])).getD 0 []), str ((spF 32 (ls.getD 0 [])).getD 1 []), .int .i64 ((((spF 32 (ls.getD 0 [])).getD 2 []).getD 7 0 - 48).toNat : Int), .slice x.A x.l.length x.C]) tf_agg24 rfl (cellsOwn 3 0 0 rfl rfl rfl)⟩, rfl, trivial⟩ (⟨x, by rw [hp]; rfl, by rw [hp], rfl⟩)
                  · skip
                    refine AtL.call tf_body76 (.inl rfl) rfl rfl (version_no (l := (spF 32 (ls.getD 0 [])).getD 2 []) (by have := hw ((spF 32 (ls.getD 0 [])).getD 2 []) (getD_mem (l := spF 32 (ls.getD 0 [])) (i := 2) (by omega)); omega) hver) ?_
                    rintro _ _ ⟨rfl, rfl⟩
                    refine AtL.move (.inl rfl) rfl rfl ?_
                    refine AtL.extract (.inl rfl) rfl rfl rfl ?_
                    refine AtL.extract (.inl rfl) rfl rfl rfl ?_
                    refine AtL.extract (.inl rfl) rfl rfl rfl ?_
                    refine AtL.assign (.inl rfl) rfl rfl ?_
                    refine AtL.assign (.inl rfl) rfl rfl ?_
                    refine AtL.assign (.inl rfl) rfl rfl ?_
                    refine AtL.done ?_
                    refine At.seq ?_
                    refine At.block ?_
                    refine At.seq ?_
                    refine At.region ?_
                    refine AtL.move (.inl rfl) rfl rfl ?_
                    refine AtL.not (.inl rfl) rfl rfl ?_
                    refine AtL.assign (.inl rfl) rfl rfl ?_
                    refine AtL.done ?_
                    refine At.condT rfl ?_
                    refine At.seq ?_
                    refine At.region ?_
                    refine AtL.build (cs := [str [], str [], .int .i64 0, .slice none 0 0]) tf_lay24 (.inl rfl) rfl rfl rfl ?_
                    refine AtL.store (H' := s11 :: s5 :: [(b1, .cells #[str [], str [], .int .i64 0, .slice none 0 0] 24 (0, 0))] :: H) 2 0 tf_sz24 (.inl rfl) rfl rfl rfl rfl rfl rfl rfl rfl rfl ?_
                    refine AtL.assign (.inl rfl) rfl rfl ?_
                    refine AtL.done ?_
                    refine At.nil ?_
                    have hp : parseF b = (.zero, 400) := by rw [hp0, headF_eq, if_neg hn3, if_pos hver]
                    exact At.retMP (vs := [.agg #[str [], str [], .int .i64 0, .slice none 0 0], .int .i64 400]) (H2 := [] :: H) [0] 4 rfl rfl Tryd.func41 rfl ⟨⟨_, rfl, LoadsTo.agg (cs := [str [], str [], .int .i64 0, .slice none 0 0]) tf_agg24 rfl (cellsOwn 3 0 0 rfl rfl rfl)⟩, rfl, trivial⟩ (⟨Sl.nil, by rw [hp]; rfl, by rw [hp]; rfl, rfl⟩)

end Go.Proofs.YtlfkoimkojbghaaDoor
