/- The parts of the proof that this law needs, in the order of their texts: the logic of walks, the plain laws, the walks. -/
import Derived.Test.YtlkdmbpbjhjkfaaGreatDoorBackPkD
namespace Go.Proofs.YtlkdmbpbjhjkfaaGreatDoor
set_option linter.unusedVariables false
set_option linter.unusedSimpArgs false
set_option maxRecDepth 100000
theorem version_no {w0 : World} {base : Nat} {H : List Seg} {l : List UInt8} (hl : l.length ≤ 140737488355000) (hv : verF l = false) : SCalls Tryz.prog 100 [str l] w0 base H (fun v H' => v = .tuple #[.int .u8 0, .int .u8 0, .bool false] ∧ H' = H) :=
  (version_ok hl).mono fun v H' h => by
    rcases h with ⟨_, h⟩ | ⟨h, _⟩
    · exact h
    · rw [hv] at h; cases h
theorem version_yes {w0 : World} {base : Nat} {H : List Seg} {l : List UInt8} (hl : l.length ≤ 140737488355000) (hv : verF l = true) : SCalls Tryz.prog 100 [str l] w0 base H (fun v H' => v = .tuple #[.int .u8 ((l.getD 5 0 - 48).toNat : Int), .int .u8 ((l.getD 7 0 - 48).toNat : Int), .bool true] ∧ H' = H) :=
  (version_ok hl).mono fun v H' h => by
    rcases h with ⟨h, _⟩ | ⟨_, _, h⟩
    · rw [hv] at h; cases h
    · exact h
theorem spF_le (c : UInt8) (l : List UInt8) : ∀ s ∈ spF c l, s.length ≤ l.length := by
  induction l with
  | nil => intro s hs; simp [spF] at hs; subst hs; simp
  | cons a l ih =>
    intro s hs
    unfold spF at hs
    by_cases h : a = c
    · rw [if_pos h] at hs
      rcases List.mem_cons.1 hs with rfl | hs
      · simp
      · have := ih s hs; simp; omega
    · rw [if_neg h] at hs
      cases hq : spF c l with
      | nil => exact absurd hq (spF_ne c l)
      | cons y ys =>
        rw [hq] at hs ih
        simp at hs
        rcases hs with rfl | hs
        · have := ih y (by simp); simp; omega
        · have := ih s (by simp [hs]); simp; omega
theorem lines_le {b : List UInt8} {ls : List (List UInt8)} (h : linesF b = some ls) : (∀ s ∈ ls, s.length ≤ b.length) ∧ ls.length ≤ b.length := by
  have hl := linesF_len h
  have key : ∀ ls : List (List UInt8), (∀ s ∈ ls, s.length ≤ (ls.map fun l => l.length + 2).sum) ∧ ls.length ≤ (ls.map fun l => l.length + 2).sum := by
    intro ls
    induction ls with
    | nil => exact ⟨fun s hs => absurd hs (by simp), by simp⟩
    | cons x ls ih =>
      obtain ⟨h1, h2⟩ := ih
      refine ⟨fun s hs => ?_, by simp; omega⟩
      rcases List.mem_cons.1 hs with rfl | hs
      · simp; omega
      · have := h1 s hs; simp; omega
  obtain ⟨h1, h2⟩ := key ls
  exact ⟨fun s hs => by have := h1 s hs; omega, by omega⟩
theorem three {α : Type} {l : List α} (d : α) (h : l.length = 3) : l = [l.getD 0 d, l.getD 1 d, l.getD 2 d] := by
  match l, h with
  | [a, b, c], _ => rfl
theorem headF_eq (l0 : List UInt8) (ls : List (List UInt8)) : headF l0 ls =
    if ¬ (spF 32 l0).length = 3 ∨ (spF 32 l0).getD 0 [] = [] ∨ (spF 32 l0).getD 1 [] = [] ∨ (spF 32 l0).getD 2 [] = [] ∨ wordF ((spF 32 l0).getD 0 []) 16 = false then (.zero, 400)
    else if verF ((spF 32 l0).getD 2 []) = false then (.zero, 400)
    else if ((spF 32 l0).getD 2 []).getD 5 0 ≠ 49 ∨ 49 < ((spF 32 l0).getD 2 []).getD 7 0 then (.zero, 505)
    else if 2048 < ((spF 32 l0).getD 1 []).length then (.zero, 414)
    else if targetF ((spF 32 l0).getD 1 []) = false then (.zero, 400)
    else match fieldsF ls 0 with
      | .inl s => (.zero, s)
      | .inr fs => if hostsF fs ((((spF 32 l0).getD 2 []).getD 7 0 - 48).toNat : Int) then (⟨(spF 32 l0).getD 0 [], (spF 32 l0).getD 1 [], ((((spF 32 l0).getD 2 []).getD 7 0 - 48).toNat : Int), fs⟩, 200) else (.zero, 400) := by
  unfold headF
  by_cases h : (spF 32 l0).length = 3
  · have h3 := three [] h
    generalize (spF 32 l0) = W at *
    match W, h with
    | [a, b, c], _ => simp; cases fieldsF ls 0 <;> rfl
  · rw [if_pos (.inl h)]
    split
    · rename_i m t v hw; rw [hw] at h; simp at h
    · rfl
theorem dig_one : ∀ c : Fin 256, 48 ≤ c.val → c.val ≤ 57 → (((UInt8.ofNat c.val - 48).toNat = 1 ↔ UInt8.ofNat c.val = 49) ∧ (1 < (UInt8.ofNat c.val - 48).toNat ↔ 49 < UInt8.ofNat c.val)) := by decide +kernel
theorem dig_two {c : UInt8} (h1 : 48 ≤ c) (h2 : c ≤ 57) : ((c - 48).toNat = 1 ↔ c = 49) ∧ (1 < (c - 48).toNat ↔ 49 < c) := by
  have := dig_one ⟨c.toNat, c.toNat_lt⟩ h1 h2
  simpa using this
theorem ver_dig {v : List UInt8} (h : verF v = true) : (¬ (((v.getD 5 0 - 48).toNat : Int) = 1) ↔ v.getD 5 0 ≠ 49) ∧ (1 < ((v.getD 7 0 - 48).toNat : Int) ↔ 49 < v.getD 7 0) := by
  simp only [verF, Bool.and_eq_true, decide_eq_true_eq] at h
  obtain ⟨⟨⟨⟨_, _⟩, h5⟩, _⟩, h7⟩ := h
  have a5 := (dig_two h5.1 h5.2).1
  have a7 := (dig_two h7.1 h7.2).2
  refine ⟨not_congr ⟨fun h => a5.1 (by omega), fun h => by have := a5.2 h; omega⟩, ⟨fun h => a7.1 (by omega), fun h => by have := a7.2 h; omega⟩⟩
theorem fields_step {L : List (List UInt8)} {k : Nat} (h : k < L.length) : fieldsF (L.drop k) k = if k = 32 then .inl 431 else if ¬ (Lib.cut (L.getD k []) [58]).2.2 = true ∨ wordF (Lib.cut (L.getD k []) [58]).1 64 = false ∨ valueF (Lib.trimS (Lib.cut (L.getD k []) [58]).2.1 [9, 32]) = false then .inl 400
    else match fieldsF (L.drop (k + 1)) (k + 1) with | .inl s => .inl s | .inr fs => .inr (((Lib.cut (L.getD k []) [58]).1, Lib.trimS (Lib.cut (L.getD k []) [58]).2.1 [9, 32]) :: fs) := by
  rw [List.drop_eq_getElem_cons h]
  have e : L[k] = L.getD k [] := by simp [List.getD, h]
  rw [e, fieldsF]
  by_cases h1 : k = 32
  · rw [if_pos h1, if_pos h1]
  · rw [if_neg h1, if_neg h1, cut_c]
    by_cases h2 : (Lib.cut (L.getD k []) [58]).2.2 = true
    · rw [if_pos h2]
      simp only [trim_set]
      by_cases h3 : wordF (Lib.cut (L.getD k []) [58]).1 64 = true
      · by_cases h4 : valueF (trimF (Lib.cut (L.getD k []) [58]).2.1) = true
        · rw [if_pos (by rw [h3, h4]; rfl), if_neg (by rw [h2, h3, h4]; simp)]
          cases fieldsF (List.drop (k + 1) L) (k + 1) <;> rfl
        · have h5 : ¬ (wordF (Lib.cut (L.getD k []) [58]).1 64 && valueF (trimF (Lib.cut (L.getD k []) [58]).2.1)) = true := by rw [h3]; simpa using h4
          rw [if_neg h5, if_pos (.inr (.inr (by simpa using h4)))]
      · rw [if_neg (fun h5 => h3 (Bool.and_eq_true_iff.1 h5).1), if_pos (.inr (.inl (by simpa using h3)))]
    · rw [if_neg h2, if_pos (.inl h2)]
theorem trimS_le (l cs : List UInt8) : (Lib.trimS l cs).length ≤ l.length := by
  unfold Lib.trimS Lib.trimLeftS Lib.trimRightS
  have h1 := dw_le (fun c => cs.contains c) l.reverse
  have h2 := dw_le (fun c => cs.contains c) (List.dropWhile (fun c => cs.contains c) l.reverse).reverse
  simp at h1 h2 ⊢
  omega
set_option maxHeartbeats 400000 in
theorem parse_ok {w0 : World} {base : Nat} {H : List Seg} {A : Option Addr} {C : Nat} {b : List UInt8} (h : Rd tyB w0 base H A C b) (T : Tabs w0 base) :
    SCalls Tryz.prog 60 [.slice A b.length C] w0 base (H) (fun v H' => ∃ x : Sl tyField 78, v = .tuple #[.agg #[str (parseF b).1.m, str (parseF b).1.t, int (parseF b).1.minor, .slice x.A x.l.length x.C], int (parseF b).2] ∧ x.l = (parseF b).1.fs ∧ H' = x.s :: H) := by
  have hcap := h.cap
  have hle := h.le
  refine SCalls.of_walk (n := 155) Tryz.func60 rfl rfl rfl fun cs => ?_
  refine At.seq ?_
  refine At.region ?_
  refine AtL.alloc tf_zero47 (cs := #[str [], str [], .int .i64 0, .slice none 0 0]) rfl (.inl rfl) rfl ?_
  intro b1
  refine AtL.assign (.inl rfl) rfl rfl ?_
  refine AtL.done ?_
  refine At.seq ?_
  refine At.seq ?_
  refine At.region ?_
  refine AtL.move (.inl rfl) rfl rfl ?_
  refine AtL.lenL Tryz.underlying22 (.inl rfl) rfl rfl ?_
  refine AtL.gtr (.inl rfl) rfl rfl rfl ?_
  refine AtL.done ?_
  refine At.cond rfl ?_ ?_
  · intro hc1
    have hc1 : 4096 < (b.length : Int) := of_decide_eq_true hc1
    refine At.seq ?_
    refine At.region ?_
    refine AtL.build (cs := [str [], str [], .int .i64 0, .slice none 0 0]) tf_lay47 (.inl rfl) rfl rfl rfl ?_
    refine AtL.store (H' := [(b1, .cells #[str [], str [], .int .i64 0, .slice none 0 0] 47 (0, 0))] :: H) 0 0 tf_sz47 (.inl rfl) rfl rfl rfl rfl rfl rfl rfl rfl rfl ?_
    refine AtL.assign (.inl rfl) rfl rfl ?_
    refine AtL.done ?_
    refine At.nil ?_
    have hp : parseF b = (.zero, 431) := by rw [parseF, if_pos (by omega)]
    exact At.retMP (vs := [.agg #[str [], str [], .int .i64 0, .slice none 0 0], .int .i64 431]) (H2 := [] :: H) [0] 2 rfl rfl Tryz.func60 rfl ⟨⟨_, rfl, LoadsTo.agg (cs := [str [], str [], .int .i64 0, .slice none 0 0]) tf_agg47 rfl (cellsOwn 1 0 0 rfl rfl rfl)⟩, rfl, trivial⟩ (⟨Sl.nil, by rw [hp]; rfl, by rw [hp]; rfl, rfl⟩)
  · intro hc1
    have hc1 : ¬ (4096 < (b.length : Int)) := of_decide_eq_false hc1
    refine At.skip ?_
    refine At.seq ?_
    refine At.region ?_
    refine AtL.move (.inl rfl) rfl rfl ?_
    refine AtL.call tf_body98 (.inl rfl) rfl rfl (lines_ok (b := b) (Rd.skip 1 h) (by omega) T) ?_
    rintro _ _ ⟨⟨A2, C3, l4, s5, o6⟩, rfl, hx7, rfl⟩
    have hlines := hx7
    refine AtL.move (.inl rfl) rfl rfl ?_
    refine AtL.extract (.inl rfl) rfl rfl rfl ?_
    refine AtL.extract (.inl rfl) rfl rfl rfl ?_
    refine AtL.assign (.inl rfl) rfl rfl ?_
    refine AtL.assign (.inl rfl) rfl rfl ?_
    refine AtL.done ?_
    refine At.seq ?_
    refine At.seq ?_
    refine At.region ?_
    refine AtL.move (.inl rfl) rfl rfl ?_
    refine AtL.not (.inl rfl) rfl rfl ?_
    refine AtL.move (.inl rfl) rfl rfl ?_
    refine AtL.join 4 (E' := [(30, .bool (decide ((((linesF b).isSome) = false) ∨ ((l4.length : Int) = 0)))), (2, .pointer (some ⟨b1, 0, none⟩)), (4, .slice A2 l4.length C3)]) (H' := s5 :: [(b1, .cells #[str [], str [], .int .i64 0, .slice none 0 0] 47 (0, 0))] :: H) (fun J => ?_) ?_
    · refine AtL.split (t := 26) rfl ?_ ?_
      · intro hs26
        have hs26 : ((linesF b).isSome) = false := bnot_true hs26
        refine AtL.skipped rfl rfl rfl rfl rfl rfl ?_
        refine AtL.skipped rfl rfl rfl rfl rfl rfl ?_
        refine AtL.skipped rfl rfl rfl rfl rfl rfl ?_
        refine AtL.pickT (.inl rfl) rfl rfl rfl ?_
        exact J _ (by exact ⟨(boolIs (by clear J; first | (simp [hs26]; done) | (simp_all; done) | grind)), rfl, rfl, trivial⟩)
      · intro hs26
        have hs26 : ((linesF b).isSome) = true := bnot_false hs26
        refine AtL.move (.inr ⟨_, _, _, rfl, rfl, rfl, rfl⟩) rfl rfl ?_
        refine AtL.lenL Tryz.underlying109 (.inr ⟨_, _, _, rfl, rfl, rfl, rfl⟩) rfl rfl ?_
        refine AtL.eqi (.inr ⟨_, _, _, rfl, rfl, rfl, rfl⟩) rfl rfl rfl ?_
        refine AtL.pickF (.inl rfl) rfl rfl rfl ?_
        exact J _ (by exact ⟨(boolIs (by clear J; first | (simp [hs26]; done) | (simp_all; done) | grind)), rfl, rfl, trivial⟩)
    · skip
      refine AtL.done ?_
      refine At.cond rfl ?_ ?_
      · intro hc2
        have hc2 : (((linesF b).isSome) = false) ∨ ((l4.length : Int) = 0) := of_decide_eq_true hc2
        refine At.seq ?_
        refine At.region ?_
        refine AtL.build (cs := [str [], str [], .int .i64 0, .slice none 0 0]) tf_lay47 (.inl rfl) rfl rfl rfl ?_
        refine AtL.store (H' := s5 :: [(b1, .cells #[str [], str [], .int .i64 0, .slice none 0 0] 47 (0, 0))] :: H) 1 0 tf_sz47 (.inl rfl) rfl rfl rfl rfl rfl rfl rfl rfl rfl ?_
        refine AtL.assign (.inl rfl) rfl rfl ?_
        refine AtL.done ?_
        refine At.nil ?_
        have hp : parseF b = (.zero, 400) := by
          rw [parseF, if_neg (by omega)]
          cases hq : linesF b with
          | none => rfl
          | some q =>
            have hql := hx7 q hq
            rw [hq] at hc2
            obtain rfl : q = [] := by rw [← hql]; exact List.eq_nil_of_length_eq_zero (by simpa using hc2)
            rfl
        exact At.retMP (vs := [.agg #[str [], str [], .int .i64 0, .slice none 0 0], .int .i64 400]) (H2 := [] :: H) [0] 3 rfl rfl Tryz.func60 rfl ⟨⟨_, rfl, LoadsTo.agg (cs := [str [], str [], .int .i64 0, .slice none 0 0]) tf_agg47 rfl (cellsOwn 2 0 0 rfl rfl rfl)⟩, rfl, trivial⟩ (⟨Sl.nil, by rw [hp]; rfl, by rw [hp]; rfl, rfl⟩)
      · intro hc2
        have hc2 : ¬ ((((linesF b).isSome) = false) ∨ ((l4.length : Int) = 0)) := of_decide_eq_false hc2
        obtain ⟨ls, hls⟩ : ∃ ls, linesF b = some ls := Option.isSome_iff_exists.1 (by cases hq : (linesF b).isSome <;> simp_all)
        have hll := (hx7 ls hls).symm
        have hne : ls.length ≠ 0 := by intro h; rw [hll] at h; simp only [not_or] at hc2; exact hc2.2 (by rw [h]; rfl)
        have hdl : (ls.drop 1).length = ls.length - 1 := by simp
        subst hll
        have hlb := lines_le hls
        have hp0 : parseF b = headF (ls.getD 0 []) (ls.drop 1) := by rw [parseF, if_neg (by omega), hls]; cases ls with | nil => simp at hne | cons a r => rfl
        have hl0 := hlb.1 (ls.getD 0 []) (getD_mem (l := ls) (i := 0) (by omega))
        have hw := spF_le 32 (ls.getD 0 [])
        have hWn : 0 < (spF 32 (ls.getD 0 [])).length := List.length_pos_iff.2 (spF_ne _ _)
        refine At.skip ?_
        refine At.seq ?_
        refine At.region ?_
        refine AtL.move (.inl rfl) rfl rfl ?_
        refine AtL.indexL 0 (o6.rd (i := 0) rfl) Tryz.underlying109 tf_sz9 (.inl rfl) rfl rfl rfl rfl (by omega) ?_
        refine AtL.load (v := str (ls.getD 0 [])) tf_flat9 (.inl rfl) rfl rfl (Rd.cell0 (o6.rd (i := 0) rfl) (getD_some [] (by omega)) rfl) ?_
        refine AtL.call tf_body92 (.inl rfl) rfl rfl (split_ok (x := (ls.getD 0 [])) 32 (by omega) T) ?_
        rintro _ _ ⟨⟨A8, C9, l10, s11, o12⟩, hx13, rfl, rfl⟩
        obtain rfl : spF 32 (ls.getD 0 []) = l10 := hx13.symm
        refine AtL.assign (.inl rfl) rfl rfl ?_
        refine AtL.done ?_
        refine At.seq ?_
        refine At.seq ?_
        refine At.region ?_
        refine AtL.move (.inl rfl) rfl rfl ?_
        refine AtL.lenL Tryz.underlying109 (.inl rfl) rfl rfl ?_
        refine AtL.nei (.inl rfl) rfl rfl rfl ?_
        refine AtL.move (.inl rfl) rfl rfl ?_
        refine AtL.join 5 (E' := [(44, .bool (decide ((¬ (((spF 32 (ls.getD 0 [])).length : Int) = 3)) ∨ (((spF 32 (ls.getD 0 [])).getD 0 []) = [])))), (2, .pointer (some ⟨b1, 0, none⟩)), (4, .slice A2 ls.length C3), (6, .slice A8 (spF 32 (ls.getD 0 [])).length C9)]) (H' := s11 :: s5 :: [(b1, .cells #[str [], str [], .int .i64 0, .slice none 0 0] 47 (0, 0))] :: H) (fun J => ?_) ?_
        · refine AtL.split (t := 39) rfl ?_ ?_
          · intro hs39
            have hs39 : ¬ (((spF 32 (ls.getD 0 [])).length : Int) = 3) := of_decide_eq_false (bnot_true hs39)
            refine AtL.skipped rfl rfl rfl rfl rfl rfl ?_
            refine AtL.skipped rfl rfl rfl rfl rfl rfl ?_
            refine AtL.skipped rfl rfl rfl rfl rfl rfl ?_
            refine AtL.skipped rfl rfl rfl rfl rfl rfl ?_
            refine AtL.pickT (.inl rfl) rfl rfl rfl ?_
            exact J _ (by exact ⟨(boolIs (by clear J; first | (simp [hs39]; done) | (simp_all; done) | grind)), rfl, rfl, rfl, trivial⟩)
          · intro hs39
            have hs39 : ((spF 32 (ls.getD 0 [])).length : Int) = 3 := of_decide_eq_true (bnot_false hs39)
            refine AtL.move (.inr ⟨_, _, _, rfl, rfl, rfl, rfl⟩) rfl rfl ?_
            refine AtL.indexL 0 (o12.rd (i := 0) rfl) Tryz.underlying109 tf_sz9 (.inr ⟨_, _, _, rfl, rfl, rfl, rfl⟩) rfl rfl rfl rfl (by omega) ?_
            refine AtL.load (v := str ((spF 32 (ls.getD 0 [])).getD 0 [])) tf_flat9 (.inr ⟨_, _, _, rfl, rfl, rfl, rfl⟩) rfl rfl (Rd.cell0 (o12.rd (i := 0) rfl) (getD_some [] (by omega)) rfl) ?_
            refine AtL.eqs (a := ((spF 32 (ls.getD 0 [])).getD 0 [])) (b := []) (.inr ⟨_, _, _, rfl, rfl, rfl, rfl⟩) rfl rfl rfl ?_
            refine AtL.pickF (.inl rfl) rfl rfl rfl ?_
            exact J _ (by exact ⟨(boolIs (by clear J; first | (simp [hs39]; done) | (simp_all; done) | grind)), rfl, rfl, rfl, trivial⟩)
        · skip
          refine AtL.move (.inl rfl) rfl rfl ?_
          refine AtL.join 5 (E' := [(50, .bool (decide (((¬ (((spF 32 (ls.getD 0 [])).length : Int) = 3)) ∨ (((spF 32 (ls.getD 0 [])).getD 0 []) = [])) ∨ (((spF 32 (ls.getD 0 [])).getD 1 []) = [])))), (2, .pointer (some ⟨b1, 0, none⟩)), (4, .slice A2 ls.length C3), (6, .slice A8 (spF 32 (ls.getD 0 [])).length C9)]) (H' := s11 :: s5 :: [(b1, .cells #[str [], str [], .int .i64 0, .slice none 0 0] 47 (0, 0))] :: H) (fun J => ?_) ?_
          · refine AtL.split (t := 45) rfl ?_ ?_
            · intro hs45
              have hs45 : (¬ (((spF 32 (ls.getD 0 [])).length : Int) = 3)) ∨ (((spF 32 (ls.getD 0 [])).getD 0 []) = []) := of_decide_eq_true hs45
              refine AtL.skipped rfl rfl rfl rfl rfl rfl ?_
              refine AtL.skipped rfl rfl rfl rfl rfl rfl ?_
              refine AtL.skipped rfl rfl rfl rfl rfl rfl ?_
              refine AtL.skipped rfl rfl rfl rfl rfl rfl ?_
              refine AtL.pickT (.inl rfl) rfl rfl rfl ?_
              exact J _ (by exact ⟨(boolIs (by clear J; first | (simp [hs45]; done) | (simp_all; done) | grind)), rfl, rfl, rfl, trivial⟩)
            · intro hs45
              have hs45 : ¬ ((¬ (((spF 32 (ls.getD 0 [])).length : Int) = 3)) ∨ (((spF 32 (ls.getD 0 [])).getD 0 []) = [])) := of_decide_eq_false hs45
              have hW3 : (spF 32 (ls.getD 0 [])).length = 3 := by simp only [not_or, Classical.not_not] at hs45; omega
              refine AtL.move (.inr ⟨_, _, _, rfl, rfl, rfl, rfl⟩) rfl rfl ?_
              refine AtL.indexL 1 (o12.rd (i := 0) rfl) Tryz.underlying109 tf_sz9 (.inr ⟨_, _, _, rfl, rfl, rfl, rfl⟩) rfl rfl rfl rfl (by omega) ?_
              refine AtL.load (v := str ((spF 32 (ls.getD 0 [])).getD 1 [])) tf_flat9 (.inr ⟨_, _, _, rfl, rfl, rfl, rfl⟩) rfl rfl (Rd.cell0 (o12.rd (i := 0) rfl) (getD_some [] (by omega)) rfl) ?_
              refine AtL.eqs (a := ((spF 32 (ls.getD 0 [])).getD 1 [])) (b := []) (.inr ⟨_, _, _, rfl, rfl, rfl, rfl⟩) rfl rfl rfl ?_
              refine AtL.pickF (.inl rfl) rfl rfl rfl ?_
              exact J _ (by exact ⟨(boolIs (by clear J; first | (simp [hs45]; done) | (simp_all; done) | grind)), rfl, rfl, rfl, trivial⟩)
          · skip
            refine AtL.move (.inl rfl) rfl rfl ?_
            refine AtL.join 5 (E' := [(56, .bool (decide ((((¬ (((spF 32 (ls.getD 0 [])).length : Int) = 3)) ∨ (((spF 32 (ls.getD 0 [])).getD 0 []) = [])) ∨ (((spF 32 (ls.getD 0 [])).getD 1 []) = [])) ∨ (((spF 32 (ls.getD 0 [])).getD 2 []) = [])))), (2, .pointer (some ⟨b1, 0, none⟩)), (4, .slice A2 ls.length C3), (6, .slice A8 (spF 32 (ls.getD 0 [])).length C9)]) (H' := s11 :: s5 :: [(b1, .cells #[str [], str [], .int .i64 0, .slice none 0 0] 47 (0, 0))] :: H) (fun J => ?_) ?_
            · refine AtL.split (t := 51) rfl ?_ ?_
              · intro hs51
                have hs51 : ((¬ (((spF 32 (ls.getD 0 [])).length : Int) = 3)) ∨ (((spF 32 (ls.getD 0 [])).getD 0 []) = [])) ∨ (((spF 32 (ls.getD 0 [])).getD 1 []) = []) := of_decide_eq_true hs51
                refine AtL.skipped rfl rfl rfl rfl rfl rfl ?_
                refine AtL.skipped rfl rfl rfl rfl rfl rfl ?_
                refine AtL.skipped rfl rfl rfl rfl rfl rfl ?_
                refine AtL.skipped rfl rfl rfl rfl rfl rfl ?_
                refine AtL.pickT (.inl rfl) rfl rfl rfl ?_
                exact J _ (by exact ⟨(boolIs (by clear J; first | (simp [hs51]; done) | (simp_all; done) | grind)), rfl, rfl, rfl, trivial⟩)
              · intro hs51
                have hs51 : ¬ (((¬ (((spF 32 (ls.getD 0 [])).length : Int) = 3)) ∨ (((spF 32 (ls.getD 0 [])).getD 0 []) = [])) ∨ (((spF 32 (ls.getD 0 [])).getD 1 []) = [])) := of_decide_eq_false hs51
                have hW3 : (spF 32 (ls.getD 0 [])).length = 3 := by simp only [not_or, Classical.not_not] at hs51; omega
                refine AtL.move (.inr ⟨_, _, _, rfl, rfl, rfl, rfl⟩) rfl rfl ?_
                refine AtL.indexL 2 (o12.rd (i := 0) rfl) Tryz.underlying109 tf_sz9 (.inr ⟨_, _, _, rfl, rfl, rfl, rfl⟩) rfl rfl rfl rfl (by omega) ?_
                refine AtL.load (v := str ((spF 32 (ls.getD 0 [])).getD 2 [])) tf_flat9 (.inr ⟨_, _, _, rfl, rfl, rfl, rfl⟩) rfl rfl (Rd.cell0 (o12.rd (i := 0) rfl) (getD_some [] (by omega)) rfl) ?_
                refine AtL.eqs (a := ((spF 32 (ls.getD 0 [])).getD 2 [])) (b := []) (.inr ⟨_, _, _, rfl, rfl, rfl, rfl⟩) rfl rfl rfl ?_
                refine AtL.pickF (.inl rfl) rfl rfl rfl ?_
                exact J _ (by exact ⟨(boolIs (by clear J; first | (simp [hs51]; done) | (simp_all; done) | grind)), rfl, rfl, rfl, trivial⟩)
            · skip
              refine AtL.move (.inl rfl) rfl rfl ?_
              refine AtL.join 6 (E' := [(63, .bool (decide (((((¬ (((spF 32 (ls.getD 0 [])).length : Int) = 3)) ∨ (((spF 32 (ls.getD 0 [])).getD 0 []) = [])) ∨ (((spF 32 (ls.getD 0 [])).getD 1 []) = [])) ∨ (((spF 32 (ls.getD 0 [])).getD 2 []) = [])) ∨ ((wordF ((spF 32 (ls.getD 0 [])).getD 0 []) 16) = false)))), (2, .pointer (some ⟨b1, 0, none⟩)), (4, .slice A2 ls.length C3), (6, .slice A8 (spF 32 (ls.getD 0 [])).length C9)]) (H' := s11 :: s5 :: [(b1, .cells #[str [], str [], .int .i64 0, .slice none 0 0] 47 (0, 0))] :: H) (fun J => ?_) ?_
              · refine AtL.split (t := 57) rfl ?_ ?_
                · intro hs57
                  have hs57 : (((¬ (((spF 32 (ls.getD 0 [])).length : Int) = 3)) ∨ (((spF 32 (ls.getD 0 [])).getD 0 []) = [])) ∨ (((spF 32 (ls.getD 0 [])).getD 1 []) = [])) ∨ (((spF 32 (ls.getD 0 [])).getD 2 []) = []) := of_decide_eq_true hs57
                  refine AtL.skipped rfl rfl rfl rfl rfl rfl ?_
                  refine AtL.skipped rfl rfl rfl rfl rfl rfl ?_
                  refine AtL.skipped rfl rfl rfl rfl rfl rfl ?_
                  refine AtL.skipped rfl rfl rfl rfl rfl rfl ?_
                  refine AtL.skipped rfl rfl rfl rfl rfl rfl ?_
                  refine AtL.pickT (.inl rfl) rfl rfl rfl ?_
                  exact J _ (by exact ⟨(boolIs (by clear J; first | (simp [hs57]; done) | (simp_all; done) | grind)), rfl, rfl, rfl, trivial⟩)
                · intro hs57
                  have hs57 : ¬ ((((¬ (((spF 32 (ls.getD 0 [])).length : Int) = 3)) ∨ (((spF 32 (ls.getD 0 [])).getD 0 []) = [])) ∨ (((spF 32 (ls.getD 0 [])).getD 1 []) = [])) ∨ (((spF 32 (ls.getD 0 [])).getD 2 []) = [])) := of_decide_eq_false hs57
                  have hW3 : (spF 32 (ls.getD 0 [])).length = 3 := by simp only [not_or, Classical.not_not] at hs57; omega
                  refine AtL.move (.inr ⟨_, _, _, rfl, rfl, rfl, rfl⟩) rfl rfl ?_
                  refine AtL.indexL 0 (o12.rd (i := 0) rfl) Tryz.underlying109 tf_sz9 (.inr ⟨_, _, _, rfl, rfl, rfl, rfl⟩) rfl rfl rfl rfl (by omega) ?_
                  refine AtL.load (v := str ((spF 32 (ls.getD 0 [])).getD 0 [])) tf_flat9 (.inr ⟨_, _, _, rfl, rfl, rfl, rfl⟩) rfl rfl (Rd.cell0 (o12.rd (i := 0) rfl) (getD_some [] (by omega)) rfl) ?_
                  refine AtL.call tf_body99 (.inr ⟨_, _, _, rfl, rfl, rfl, rfl⟩) rfl rfl (word_ok (l := ((spF 32 (ls.getD 0 [])).getD 0 [])) (by have := hw ((spF 32 (ls.getD 0 [])).getD 0 []) (getD_mem (l := spF 32 (ls.getD 0 [])) (i := 0) (by omega)); omega) 16) ?_
                  rintro _ _ ⟨rfl, rfl⟩
                  refine AtL.not (.inr ⟨_, _, _, rfl, rfl, rfl, rfl⟩) rfl rfl ?_
                  refine AtL.pickF (.inl rfl) rfl rfl rfl ?_
                  exact J _ (by exact ⟨(boolIs (by clear J; first | (simp [hs57]; done) | (simp_all; done) | grind)), rfl, rfl, rfl, trivial⟩)
              · skip
                refine AtL.done ?_
                refine At.cond rfl ?_ ?_
                · intro hc3
                  have hc3 : ((((¬ (((spF 32 (ls.getD 0 [])).length : Int) = 3)) ∨ (((spF 32 (ls.getD 0 [])).getD 0 []) = [])) ∨ (((spF 32 (ls.getD 0 [])).getD 1 []) = [])) ∨ (((spF 32 (ls.getD 0 [])).getD 2 []) = [])) ∨ ((wordF ((spF 32 (ls.getD 0 [])).getD 0 []) 16) = false) := of_decide_eq_true hc3
                  refine At.seq ?_
                  refine At.region ?_
                  refine AtL.build (cs := [str [], str [], .int .i64 0, .slice none 0 0]) tf_lay47 (.inl rfl) rfl rfl rfl ?_
                  refine AtL.store (H' := s11 :: s5 :: [(b1, .cells #[str [], str [], .int .i64 0, .slice none 0 0] 47 (0, 0))] :: H) 2 0 tf_sz47 (.inl rfl) rfl rfl rfl rfl rfl rfl rfl rfl rfl ?_
                  refine AtL.assign (.inl rfl) rfl rfl ?_
                  refine AtL.done ?_
                  refine At.nil ?_
                  have hp : parseF b = (.zero, 400) := by rw [hp0, headF_eq, if_pos (by rcases hc3 with (((h3 | h3) | h3) | h3) | h3; exact .inl (by omega); exact .inr (.inl h3); exact .inr (.inr (.inl h3)); exact .inr (.inr (.inr (.inl h3))); exact .inr (.inr (.inr (.inr h3))))]
                  exact At.retMP (vs := [.agg #[str [], str [], .int .i64 0, .slice none 0 0], .int .i64 400]) (H2 := [] :: H) [0] 4 rfl rfl Tryz.func60 rfl ⟨⟨_, rfl, LoadsTo.agg (cs := [str [], str [], .int .i64 0, .slice none 0 0]) tf_agg47 rfl (cellsOwn 3 0 0 rfl rfl rfl)⟩, rfl, trivial⟩ (⟨Sl.nil, by rw [hp]; rfl, by rw [hp]; rfl, rfl⟩)
                · intro hc3
                  have hc3 : ¬ (((((¬ (((spF 32 (ls.getD 0 [])).length : Int) = 3)) ∨ (((spF 32 (ls.getD 0 [])).getD 0 []) = [])) ∨ (((spF 32 (ls.getD 0 [])).getD 1 []) = [])) ∨ (((spF 32 (ls.getD 0 [])).getD 2 []) = [])) ∨ ((wordF ((spF 32 (ls.getD 0 [])).getD 0 []) 16) = false)) := of_decide_eq_false hc3
                  have hW3 : (spF 32 (ls.getD 0 [])).length = 3 := by simp only [not_or] at hc3; omega
                  have hn3 : ¬ (¬ (spF 32 (ls.getD 0 [])).length = 3 ∨ (spF 32 (ls.getD 0 [])).getD 0 [] = [] ∨ (spF 32 (ls.getD 0 [])).getD 1 [] = [] ∨ (spF 32 (ls.getD 0 [])).getD 2 [] = [] ∨ wordF ((spF 32 (ls.getD 0 [])).getD 0 []) 16 = false) := by simp only [not_or] at hc3 ⊢; exact ⟨by omega, hc3.1.1.1.2, hc3.1.1.2, hc3.1.2, by simpa using hc3.2⟩
                  refine At.skip ?_
                  refine At.seq ?_
                  refine At.region ?_
                  refine AtL.move (.inl rfl) rfl rfl ?_
                  refine AtL.indexL 2 (o12.rd (i := 0) rfl) Tryz.underlying109 tf_sz9 (.inl rfl) rfl rfl rfl rfl (by omega) ?_
                  refine AtL.load (v := str ((spF 32 (ls.getD 0 [])).getD 2 [])) tf_flat9 (.inl rfl) rfl rfl (Rd.cell0 (o12.rd (i := 0) rfl) (getD_some [] (by omega)) rfl) ?_
                  rcases Bool.eq_false_or_eq_true (verF ((spF 32 (ls.getD 0 [])).getD 2 [])) with hver | hver
                  · skip
                    refine AtL.call tf_body100 (.inl rfl) rfl rfl (version_yes (l := (spF 32 (ls.getD 0 [])).getD 2 []) (by have := hw ((spF 32 (ls.getD 0 [])).getD 2 []) (getD_mem (l := spF 32 (ls.getD 0 [])) (i := 2) (by omega)); omega) hver) ?_
                    rintro _ _ ⟨rfl, rfl⟩
                    refine AtL.move (.inl rfl) rfl rfl ?_
                    refine AtL.extract (.inl rfl) rfl rfl rfl ?_
                    refine AtL.extract (.inl rfl) rfl rfl rfl ?_
                    refine AtL.extract (.inl rfl) rfl rfl rfl ?_
                    refine AtL.assign (.inl rfl) rfl rfl ?_
                    refine AtL.assign (.inl rfl) rfl rfl ?_
                    refine AtL.assign (.inl rfl) rfl rfl ?_
                    refine AtL.done ?_
                    refine At.seq ?_
                    refine At.block ?_
                    refine At.seq ?_
                    refine At.region ?_
                    refine AtL.move (.inl rfl) rfl rfl ?_
                    refine AtL.not (.inl rfl) rfl rfl ?_
                    refine AtL.assign (.inl rfl) rfl rfl ?_
                    refine AtL.done ?_
                    refine At.condF rfl ?_
                    refine At.seq ?_
                    refine At.region ?_
                    refine AtL.move (.inl rfl) rfl rfl ?_
                    refine AtL.nei (.inl rfl) rfl rfl rfl ?_
                    refine AtL.move (.inl rfl) rfl rfl ?_
                    refine AtL.join 3 (E' := [(83, .bool (decide ((¬ (((((spF 32 (ls.getD 0 [])).getD 2 []).getD 5 0 - 48).toNat : Int) = 1)) ∨ (1 < ((((spF 32 (ls.getD 0 [])).getD 2 []).getD 7 0 - 48).toNat : Int))))), (2, .pointer (some ⟨b1, 0, none⟩)), (4, .slice A2 ls.length C3), (6, .slice A8 (spF 32 (ls.getD 0 [])).length C9), (8, .int .u8 ((((spF 32 (ls.getD 0 [])).getD 2 []).getD 7 0 - 48).toNat : Int))]) (H' := s11 :: s5 :: [(b1, .cells #[str [], str [], .int .i64 0, .slice none 0 0] 47 (0, 0))] :: H) (fun J => ?_) ?_
                    · refine AtL.split (t := 80) rfl ?_ ?_
                      · intro hs80
                        have hs80 : ¬ (((((spF 32 (ls.getD 0 [])).getD 2 []).getD 5 0 - 48).toNat : Int) = 1) := of_decide_eq_false (bnot_true hs80)
                        refine AtL.skipped rfl rfl rfl rfl rfl rfl ?_
                        refine AtL.skipped rfl rfl rfl rfl rfl rfl ?_
                        refine AtL.pickT (.inl rfl) rfl rfl rfl ?_
                        exact J _ (by exact ⟨(boolIs (by clear J; first | (simp [hs80]; done) | (simp_all; done) | grind)), rfl, rfl, rfl, rfl, trivial⟩)
                      · intro hs80
                        have hs80 : ((((spF 32 (ls.getD 0 [])).getD 2 []).getD 5 0 - 48).toNat : Int) = 1 := of_decide_eq_true (bnot_false hs80)
                        refine AtL.move (.inr ⟨_, _, _, rfl, rfl, rfl, rfl⟩) rfl rfl ?_
                        refine AtL.gtr (.inr ⟨_, _, _, rfl, rfl, rfl, rfl⟩) rfl rfl rfl ?_
                        refine AtL.pickF (.inl rfl) rfl rfl rfl ?_
                        exact J _ (by exact ⟨(boolIs (by clear J; first | (simp [hs80]; done) | (simp_all; done) | grind)), rfl, rfl, rfl, rfl, trivial⟩)
                    · skip
                      refine AtL.assign (.inl rfl) rfl rfl ?_
                      refine AtL.done ?_
                      refine At.cond rfl ?_ ?_
                      · intro hc5
                        have hc5 : (¬ (((((spF 32 (ls.getD 0 [])).getD 2 []).getD 5 0 - 48).toNat : Int) = 1)) ∨ (1 < ((((spF 32 (ls.getD 0 [])).getD 2 []).getD 7 0 - 48).toNat : Int)) := of_decide_eq_true hc5
                        refine At.seq ?_
                        refine At.region ?_
                        refine AtL.build (cs := [str [], str [], .int .i64 0, .slice none 0 0]) tf_lay47 (.inl rfl) rfl rfl rfl ?_
                        refine AtL.store (H' := s11 :: s5 :: [(b1, .cells #[str [], str [], .int .i64 0, .slice none 0 0] 47 (0, 0))] :: H) 2 0 tf_sz47 (.inl rfl) rfl rfl rfl rfl rfl rfl rfl rfl rfl ?_
                        refine AtL.assign (.inl rfl) rfl rfl ?_
                        refine AtL.done ?_
                        refine At.nil ?_
                        have hp : parseF b = (.zero, 505) := by rw [hp0, headF_eq, if_neg hn3, if_neg (by rw [hver]; simp), if_pos (by rw [← (ver_dig hver).1, ← (ver_dig hver).2]; exact hc5)]
                        exact At.retMP (vs := [.agg #[str [], str [], .int .i64 0, .slice none 0 0], .int .i64 505]) (H2 := [] :: H) [0] 4 rfl rfl Tryz.func60 rfl ⟨⟨_, rfl, LoadsTo.agg (cs := [str [], str [], .int .i64 0, .slice none 0 0]) tf_agg47 rfl (cellsOwn 3 0 0 rfl rfl rfl)⟩, rfl, trivial⟩ (⟨Sl.nil, by rw [hp]; rfl, by rw [hp]; rfl, rfl⟩)
                      · intro hc5
                        have hc5 : ¬ ((¬ (((((spF 32 (ls.getD 0 [])).getD 2 []).getD 5 0 - 48).toNat : Int) = 1)) ∨ (1 < ((((spF 32 (ls.getD 0 [])).getD 2 []).getD 7 0 - 48).toNat : Int))) := of_decide_eq_false hc5
                        refine At.seq ?_
                        refine At.region ?_
                        refine AtL.move (.inl rfl) rfl rfl ?_
                        refine AtL.indexL 1 (o12.rd (i := 0) rfl) Tryz.underlying109 tf_sz9 (.inl rfl) rfl rfl rfl rfl (by omega) ?_
                        refine AtL.load (v := str ((spF 32 (ls.getD 0 [])).getD 1 [])) tf_flat9 (.inl rfl) rfl rfl (Rd.cell0 (o12.rd (i := 0) rfl) (getD_some [] (by omega)) rfl) ?_
                        refine AtL.lenS (l := ((spF 32 (ls.getD 0 [])).getD 1 [])) Tryz.underlying9 (.inl rfl) rfl rfl ?_
                        refine AtL.gtr (.inl rfl) rfl rfl rfl ?_
                        refine AtL.assign (.inl rfl) rfl rfl ?_
                        refine AtL.done ?_
                        refine At.cond rfl ?_ ?_
                        · intro hc6
                          have hc6 : 2048 < (((spF 32 (ls.getD 0 [])).getD 1 []).length : Int) := of_decide_eq_true hc6
                          refine At.seq ?_
                          refine At.region ?_
                          refine AtL.build (cs := [str [], str [], .int .i64 0, .slice none 0 0]) tf_lay47 (.inl rfl) rfl rfl rfl ?_
                          refine AtL.store (H' := s11 :: s5 :: [(b1, .cells #[str [], str [], .int .i64 0, .slice none 0 0] 47 (0, 0))] :: H) 2 0 tf_sz47 (.inl rfl) rfl rfl rfl rfl rfl rfl rfl rfl rfl ?_
                          refine AtL.assign (.inl rfl) rfl rfl ?_
                          refine AtL.done ?_
                          refine At.nil ?_
                          have hp : parseF b = (.zero, 414) := by rw [hp0, headF_eq, if_neg hn3, if_neg (by rw [hver]; simp), if_neg (by rw [← (ver_dig hver).1, ← (ver_dig hver).2]; exact hc5), if_pos (by omega)]
                          exact At.retMP (vs := [.agg #[str [], str [], .int .i64 0, .slice none 0 0], .int .i64 414]) (H2 := [] :: H) [0] 4 rfl rfl Tryz.func60 rfl ⟨⟨_, rfl, LoadsTo.agg (cs := [str [], str [], .int .i64 0, .slice none 0 0]) tf_agg47 rfl (cellsOwn 3 0 0 rfl rfl rfl)⟩, rfl, trivial⟩ (⟨Sl.nil, by rw [hp]; rfl, by rw [hp]; rfl, rfl⟩)
                        · intro hc6
                          have hc6 : ¬ (2048 < (((spF 32 (ls.getD 0 [])).getD 1 []).length : Int)) := of_decide_eq_false hc6
                          refine At.seq ?_
                          refine At.region ?_
                          refine AtL.move (.inl rfl) rfl rfl ?_
                          refine AtL.indexL 1 (o12.rd (i := 0) rfl) Tryz.underlying109 tf_sz9 (.inl rfl) rfl rfl rfl rfl (by omega) ?_
                          refine AtL.load (v := str ((spF 32 (ls.getD 0 [])).getD 1 [])) tf_flat9 (.inl rfl) rfl rfl (Rd.cell0 (o12.rd (i := 0) rfl) (getD_some [] (by omega)) rfl) ?_
                          refine AtL.call tf_body101 (.inl rfl) rfl rfl (target_ok (l := ((spF 32 (ls.getD 0 [])).getD 1 [])) (by have := hw ((spF 32 (ls.getD 0 [])).getD 1 []) (getD_mem (l := spF 32 (ls.getD 0 [])) (i := 1) (by omega)); omega)) ?_
                          rintro _ _ ⟨rfl, rfl⟩
                          refine AtL.not (.inl rfl) rfl rfl ?_
                          refine AtL.assign (.inl rfl) rfl rfl ?_
                          refine AtL.done ?_
                          refine At.cond rfl ?_ ?_
                          · intro hc7
                            have hc7 : (targetF ((spF 32 (ls.getD 0 [])).getD 1 [])) = false := bnot_true hc7
                            refine At.seq ?_
                            refine At.region ?_
                            refine AtL.build (cs := [str [], str [], .int .i64 0, .slice none 0 0]) tf_lay47 (.inl rfl) rfl rfl rfl ?_
                            refine AtL.store (H' := s11 :: s5 :: [(b1, .cells #[str [], str [], .int .i64 0, .slice none 0 0] 47 (0, 0))] :: H) 2 0 tf_sz47 (.inl rfl) rfl rfl rfl rfl rfl rfl rfl rfl rfl ?_
                            refine AtL.assign (.inl rfl) rfl rfl ?_
                            refine AtL.done ?_
                            refine At.nil ?_
                            have hp : parseF b = (.zero, 400) := by rw [hp0, headF_eq, if_neg hn3, if_neg (by rw [hver]; simp), if_neg (by rw [← (ver_dig hver).1, ← (ver_dig hver).2]; exact hc5), if_neg (by omega), if_pos (by simpa using hc7)]
                            exact At.retMP (vs := [.agg #[str [], str [], .int .i64 0, .slice none 0 0], .int .i64 400]) (H2 := [] :: H) [0] 4 rfl rfl Tryz.func60 rfl ⟨⟨_, rfl, LoadsTo.agg (cs := [str [], str [], .int .i64 0, .slice none 0 0]) tf_agg47 rfl (cellsOwn 3 0 0 rfl rfl rfl)⟩, rfl, trivial⟩ (⟨Sl.nil, by rw [hp]; rfl, by rw [hp]; rfl, rfl⟩)
                          · intro hc7
                            have hc7 : (targetF ((spF 32 (ls.getD 0 [])).getD 1 [])) = true := bnot_false hc7
                            refine At.skip ?_
                            refine At.inBlock ?_
                            refine At.seq ?_
                            have hB14 := u8_le ((((spF 32 (ls.getD 0 [])).getD 2 []).getD 7 0 - 48))
                            refine At.draw (es := [9, 10]) (pv := [(0, .slice A8 (spF 32 (ls.getD 0 [])).length C9), (1, .pointer (some (eaddr A8 (0 * tyS.sz)))), (2, str ((spF 32 (ls.getD 0 [])).getD 0 [])), (3, .slice A8 (spF 32 (ls.getD 0 [])).length C9), (4, .pointer (some (eaddr A8 (1 * tyS.sz)))), (5, str ((spF 32 (ls.getD 0 [])).getD 1 [])), (6, .int .u8 ((((spF 32 (ls.getD 0 [])).getD 2 []).getD 7 0 - 48).toNat : Int)), (7, .int .i64 ((((spF 32 (ls.getD 0 [])).getD 2 []).getD 7 0 - 48).toNat : Int)), (8, .agg #[str ((spF 32 (ls.getD 0 [])).getD 0 []), str ((spF 32 (ls.getD 0 [])).getD 1 []), .int .i64 ((((spF 32 (ls.getD 0 [])).getD 2 []).getD 7 0 - 48).toNat : Int), .slice none 0 0])]) tf_mixed (by kernel_rfl) (by kernel_rfl) (by kernel_rfl) ?_
                            refine ⟨⟨.inr ⟨_, rfl, rfl, .inl ⟨rfl, Do.move rfl⟩⟩, .inr ⟨_, rfl, rfl, .inl ⟨rfl, Do.indexL 0 (o12.rd (i := 0) rfl) Tryz.underlying109 tf_sz9 rfl rfl rfl (by omega)⟩⟩, .inr ⟨_, rfl, rfl, .inl ⟨rfl, Do.load (v := str ((spF 32 (ls.getD 0 [])).getD 0 [])) tf_flat9 rfl (Rd.cell0 (o12.rd (i := 0) rfl) (getD_some [] (by omega)) rfl)⟩⟩, .inr ⟨_, rfl, rfl, .inl ⟨rfl, Do.move rfl⟩⟩, .inr ⟨_, rfl, rfl, .inl ⟨rfl, Do.indexL 1 (o12.rd (i := 0) rfl) Tryz.underlying109 tf_sz9 rfl rfl rfl (by omega)⟩⟩, .inr ⟨_, rfl, rfl, .inl ⟨rfl, Do.load (v := str ((spF 32 (ls.getD 0 [])).getD 1 [])) tf_flat9 rfl (Rd.cell0 (o12.rd (i := 0) rfl) (getD_some [] (by omega)) rfl)⟩⟩, .inr ⟨_, rfl, rfl, .inl ⟨rfl, Do.move rfl⟩⟩, .inr ⟨_, rfl, rfl, .inl ⟨rfl, Do.convInt (z := ((((spF 32 (ls.getD 0 [])).getD 2 []).getD 7 0 - 48).toNat : Int)) Tryz.underlying5 Tryz.underlying3 rfl (u8_i64 _)⟩⟩, .inr ⟨_, rfl, rfl, .inl ⟨rfl, Do.build (cs := [str ((spF 32 (ls.getD 0 [])).getD 0 []), str ((spF 32 (ls.getD 0 [])).getD 1 []), .int .i64 ((((spF 32 (ls.getD 0 [])).getD 2 []).getD 7 0 - 48).toNat : Int), .slice none 0 0]) tf_lay47 rfl rfl⟩⟩, trivial⟩, rfl, rfl, by kernel_rfl, _, rfl, rfl, rfl, _, Do.alloc tf_zero47 (cs := #[str [], str [], .int .i64 0, .slice none 0 0]) rfl, ?_⟩
                            rintro _ _ ⟨b15, rfl, rfl⟩
                            refine ⟨[], rfl, ?_⟩
                            refine ⟨⟨.inr ⟨_, rfl, rfl, .inl ⟨rfl, Do.move rfl⟩⟩, .inr ⟨_, rfl, rfl, .inl ⟨rfl, Do.indexL 0 (o12.rd (i := 1) rfl) Tryz.underlying109 tf_sz9 rfl rfl rfl (by omega)⟩⟩, .inr ⟨_, rfl, rfl, .inl ⟨rfl, Do.load (v := str ((spF 32 (ls.getD 0 [])).getD 0 [])) tf_flat9 rfl (Rd.cell0 (o12.rd (i := 1) rfl) (getD_some [] (by omega)) rfl)⟩⟩, .inr ⟨_, rfl, rfl, .inl ⟨rfl, Do.move rfl⟩⟩, .inr ⟨_, rfl, rfl, .inl ⟨rfl, Do.indexL 1 (o12.rd (i := 1) rfl) Tryz.underlying109 tf_sz9 rfl rfl rfl (by omega)⟩⟩, .inr ⟨_, rfl, rfl, .inl ⟨rfl, Do.load (v := str ((spF 32 (ls.getD 0 [])).getD 1 [])) tf_flat9 rfl (Rd.cell0 (o12.rd (i := 1) rfl) (getD_some [] (by omega)) rfl)⟩⟩, .inr ⟨_, rfl, rfl, .inl ⟨rfl, Do.move rfl⟩⟩, .inr ⟨_, rfl, rfl, .inl ⟨rfl, Do.convInt (z := ((((spF 32 (ls.getD 0 [])).getD 2 []).getD 7 0 - 48).toNat : Int)) Tryz.underlying5 Tryz.underlying3 rfl (u8_i64 _)⟩⟩, .inr ⟨_, rfl, rfl, .inl ⟨rfl, Do.build (cs := [str ((spF 32 (ls.getD 0 [])).getD 0 []), str ((spF 32 (ls.getD 0 [])).getD 1 []), .int .i64 ((((spF 32 (ls.getD 0 [])).getD 2 []).getD 7 0 - 48).toNat : Int), .slice none 0 0]) tf_lay47 rfl rfl⟩⟩, trivial⟩, rfl, rfl, by kernel_rfl, _, rfl, rfl, rfl, _, Do.store (H' := [(b15, .cells #[str ((spF 32 (ls.getD 0 [])).getD 0 []), str ((spF 32 (ls.getD 0 [])).getD 1 []), .int .i64 ((((spF 32 (ls.getD 0 [])).getD 2 []).getD 7 0 - 48).toNat : Int), .slice none 0 0] 47 (0, 0))] :: s11 :: s5 :: [(b1, .cells #[str [], str [], .int .i64 0, .slice none 0 0] 47 (0, 0))] :: H) 0 0 tf_sz47 rfl rfl rfl rfl rfl rfl rfl rfl rfl, ?_⟩
                            rintro _ _ ⟨rfl, rfl⟩
                            refine ⟨[], rfl, ?_⟩
                            refine ⟨⟨.inl (by kernel_rfl), .inl (by kernel_rfl), .inl (by kernel_rfl), .inl (by kernel_rfl), .inl (by kernel_rfl), .inl (by kernel_rfl), .inl (by kernel_rfl), .inl (by kernel_rfl), .inl (by kernel_rfl), trivial⟩, by kernel_rfl, ?_⟩
                            refine At.mono (E' := [(2, .pointer (some ⟨b1, 0, none⟩)), (4, .slice A2 ls.length C3), (9, .pointer (some ⟨b15, 0, none⟩))]) ⟨rfl, rfl, rfl, trivial⟩ ?_
                            refine At.seq ?_
                            refine At.seq ?_
                            refine At.region ?_
                            refine AtL.move (.inl rfl) rfl rfl ?_
                            have hleo19 := Own.le_cap o6
                            refine AtL.sliceO 1 ls.length C3 o6 (evBound_some rfl rfl) rfl rfl (by intro h; cases h) (by omega) (Nat.le_refl _) (by omega) (Nat.le_refl _) Tryz.underlying109 tf_sz9 (.inl rfl) rfl rfl ?_
                            rw [show subl ls 1 ls.length = ls.drop 1 from by unfold subl; rw [List.take_of_length_le (by simp)]]
                            intro A17 C18 o19
                            refine AtL.lenL Tryz.underlying109 (.inl rfl) rfl rfl ?_
                            refine AtL.move (.inl rfl) rfl rfl ?_
                            refine AtL.done ?_
                            refine At.block ?_
                            refine At.nil ?_
                            refine At.pick (H' := [(b15, .cells #[str ((spF 32 (ls.getD 0 [])).getD 0 []), str ((spF 32 (ls.getD 0 [])).getD 1 []), .int .i64 ((((spF 32 (ls.getD 0 [])).getD 2 []).getD 7 0 - 48).toNat : Int), .slice none 0 0] 47 (0, 0))] :: [] :: s5 :: [(b1, .cells #[str [], str [], .int .i64 0, .slice none 0 0] 47 (0, 0))] :: H) [1, 0, 3, 4] 5 rfl rfl ?_
                            refine At.loop2 (fun (k : Nat) (x : Sl tyField 78) => [(2, .pointer (some ⟨b1, 0, none⟩)), (9, .pointer (some ⟨b15, 0, none⟩)), (109, .slice A17 (ls.drop 1).length C18), (110, .int .i64 ((ls.drop 1).length : Int)), (111, .int .i64 (k : Int))]) (fun (k : Nat) (x : Sl tyField 78) => [(b15, .cells #[str ((spF 32 (ls.getD 0 [])).getD 0 []), str ((spF 32 (ls.getD 0 [])).getD 1 []), .int .i64 ((((spF 32 (ls.getD 0 [])).getD 2 []).getD 7 0 - 48).toNat : Int), .slice x.A x.l.length x.C] 47 (0, 0))] :: x.s :: s5 :: [(b1, .cells #[str [], str [], .int .i64 0, .slice none 0 0] 47 (0, 0))] :: H) (fun (k : Nat) (x : Sl tyField 78) => k ≤ (ls.drop 1).length ∧ (x.l.length = k ∧ k ≤ 32) ∧ fieldsF (ls.drop 1) 0 = (match fieldsF ((ls.drop 1).drop k) k with | .inl s => .inl s | .inr fs => .inr (x.l ++ fs)) ∧ (∀ f ∈ x.l, f.1.length ≤ b.length ∧ f.2.length ≤ b.length)) (fun (k : Nat) (x : Sl tyField 78) => (ls.drop 1).length - k) 0 Sl.nil (⟨Nat.zero_le _, ⟨rfl, by decide⟩, by rw [List.drop_zero]; cases fieldsF (ls.drop 1) 0 <;> simp [Sl.nil], fun f hf => absurd hf (by simp [Sl.nil])⟩) ⟨rfl, rfl, rfl, rfl, rfl, trivial⟩ rfl ?_
                            rintro k x ⟨hk, ⟨hxl, hk32⟩, hfl, hxb⟩ ihL1
                            have hcap := Own.cap_le x.own
                            refine At.seq ?_
                            refine At.region ?_
                            refine AtL.lss (.inl rfl) rfl rfl rfl ?_
                            refine AtL.done ?_
                            refine At.seq ?_
                            refine At.cond rfl ?_ ?_
                            · intro hc8
                              have hc8 : (k : Int) < ((ls.drop 1).length : Int) := of_decide_eq_true hc8
                              have hst := fields_step (L := ls.drop 1) (k := k) (by omega)
                              have hlk := hlb.1 ((ls.drop 1).getD k []) (List.mem_of_mem_drop (getD_mem (l := ls.drop 1) (i := k) (by omega)))
                              have hcl := cut_le 58 ((ls.drop 1).getD k [])
                              have htl := trimS_le (Lib.cut ((ls.drop 1).getD k []) [58]).2.1 [9, 32]
                              refine At.skip ?_
                              refine At.seq ?_
                              refine At.block ?_
                              refine At.seq ?_
                              refine At.region ?_
                              refine AtL.indexL k (o19.rd (i := 2) rfl) Tryz.underlying109 tf_sz9 (.inl rfl) rfl rfl rfl rfl (by omega) ?_
                              refine AtL.load (v := str ((ls.drop 1).getD k [])) tf_flat9 (.inl rfl) rfl rfl (Rd.cell0 (o19.rd (i := 2) rfl) (getD_some [] (by omega)) rfl) ?_
                              refine AtL.assign (.inl rfl) rfl rfl ?_
                              refine AtL.done ?_
                              refine At.seq ?_
                              refine At.seq ?_
                              refine At.region ?_
                              refine AtL.fieldAddrB tf_fo47_3 (.inl rfl) rfl rfl rfl ?_
                              refine AtL.load tf_flat45 (.inl rfl) rfl rfl (Cell.own 0 0 rfl rfl rfl) ?_
                              refine AtL.lenL Tryz.underlying45 (.inl rfl) rfl rfl ?_
                              refine AtL.eqi (.inl rfl) rfl rfl rfl ?_
                              refine AtL.done ?_
                              refine At.cond rfl ?_ ?_
                              · intro hc9
                                have hc9 : (x.l.length : Int) = 32 := of_decide_eq_true hc9
                                refine At.seq ?_
                                refine At.region ?_
                                refine AtL.build (cs := [str [], str [], .int .i64 0, .slice none 0 0]) tf_lay47 (.inl rfl) rfl rfl rfl ?_
                                refine AtL.store (H' := [(b15, .cells #[str ((spF 32 (ls.getD 0 [])).getD 0 []), str ((spF 32 (ls.getD 0 [])).getD 1 []), .int .i64 ((((spF 32 (ls.getD 0 [])).getD 2 []).getD 7 0 - 48).toNat : Int), .slice x.A x.l.length x.C] 47 (0, 0))] :: x.s :: s5 :: [(b1, .cells #[str [], str [], .int .i64 0, .slice none 0 0] 47 (0, 0))] :: H) 3 0 tf_sz47 (.inl rfl) rfl rfl rfl rfl rfl rfl rfl rfl rfl ?_
                                refine AtL.assign (.inl rfl) rfl rfl ?_
                                refine AtL.done ?_
                                refine At.nil ?_
                                have hp : parseF b = (.zero, 431) := by rw [hp0, headF_eq, if_neg hn3, if_neg (by rw [hver]; simp), if_neg (by rw [← (ver_dig hver).1, ← (ver_dig hver).2]; exact hc5), if_neg (by omega), if_neg (by simpa using hc7), hfl, hst, if_pos (by omega)]
                                exact At.retMP (vs := [.agg #[str [], str [], .int .i64 0, .slice none 0 0], .int .i64 431]) (H2 := [] :: H) [0] 5 rfl rfl Tryz.func60 rfl ⟨⟨_, rfl, LoadsTo.agg (cs := [str [], str [], .int .i64 0, .slice none 0 0]) tf_agg47 rfl (cellsOwn 4 0 0 rfl rfl rfl)⟩, rfl, trivial⟩ (⟨Sl.nil, by rw [hp]; rfl, by rw [hp]; rfl, rfl⟩)
                              · intro hc9
                                have hc9 : ¬ ((x.l.length : Int) = 32) := of_decide_eq_false hc9
                                refine At.skip ?_
                                refine At.seq ?_
                                refine At.region ?_
                                refine AtL.move (.inl rfl) rfl rfl ?_
                                refine AtL.call tf_body53 (.inl rfl) rfl rfl (cut_ok (x := ((ls.drop 1).getD k [])) 58 (by omega) T) ?_
                                rintro _ _ ⟨rfl, rfl⟩
                                refine AtL.move (.inl rfl) rfl rfl ?_
                                refine AtL.extract (.inl rfl) rfl rfl rfl ?_
                                refine AtL.extract (.inl rfl) rfl rfl rfl ?_
                                refine AtL.extract (.inl rfl) rfl rfl rfl ?_
                                refine AtL.assign (.inl rfl) rfl rfl ?_
                                refine AtL.assign (.inl rfl) rfl rfl ?_
                                refine AtL.assign (.inl rfl) rfl rfl ?_
                                refine AtL.done ?_
                                refine At.seq ?_
                                refine At.region ?_
                                refine AtL.move (.inl rfl) rfl rfl ?_
                                refine AtL.call tf_body102 (.inl rfl) rfl rfl (trim_ok (x := (Lib.cut ((ls.drop 1).getD k []) [58]).2.1) (cs := [9, 32]) (by omega) (by decide) (by decide)) ?_
                                rintro _ _ ⟨rfl, rfl⟩
                                refine AtL.assign (.inl rfl) rfl rfl ?_
                                refine AtL.done ?_
                                refine At.seq ?_
                                refine At.seq ?_
                                refine At.region ?_
                                refine AtL.move (.inl rfl) rfl rfl ?_
                                refine AtL.not (.inl rfl) rfl rfl ?_
                                refine AtL.move (.inl rfl) rfl rfl ?_
                                refine AtL.join 4 (E' := [(134, .bool (decide ((((Lib.cut ((ls.drop 1).getD k []) [58]).2.2) = false) ∨ ((wordF ((Lib.cut ((ls.drop 1).getD k []) [58]).1) 64) = false)))), (2, .pointer (some ⟨b1, 0, none⟩)), (9, .pointer (some ⟨b15, 0, none⟩)), (12, str ((Lib.cut ((ls.drop 1).getD k []) [58]).1)), (13, str (Lib.trimS ((Lib.cut ((ls.drop 1).getD k []) [58]).2.1) [9, 32])), (109, .slice A17 (ls.drop 1).length C18), (110, .int .i64 ((ls.drop 1).length : Int)), (111, .int .i64 (k : Int))]) (H' := [(b15, .cells #[str ((spF 32 (ls.getD 0 [])).getD 0 []), str ((spF 32 (ls.getD 0 [])).getD 1 []), .int .i64 ((((spF 32 (ls.getD 0 [])).getD 2 []).getD 7 0 - 48).toNat : Int), .slice x.A x.l.length x.C] 47 (0, 0))] :: x.s :: s5 :: [(b1, .cells #[str [], str [], .int .i64 0, .slice none 0 0] 47 (0, 0))] :: H) (fun J => ?_) ?_
                                · refine AtL.split (t := 130) rfl ?_ ?_
                                  · intro hs130
                                    have hs130 : ((Lib.cut ((ls.drop 1).getD k []) [58]).2.2) = false := bnot_true hs130
                                    refine AtL.skipped rfl rfl rfl rfl rfl rfl ?_
                                    refine AtL.skipped rfl rfl rfl rfl rfl rfl ?_
                                    refine AtL.skipped rfl rfl rfl rfl rfl rfl ?_
                                    refine AtL.pickT (.inl rfl) rfl rfl rfl ?_
                                    exact J _ (by exact ⟨(boolIs (by clear J; first | (simp [hs130]; done) | (simp_all; done) | grind)), rfl, rfl, rfl, rfl, rfl, rfl, rfl, trivial⟩)
                                  · intro hs130
                                    have hs130 : ((Lib.cut ((ls.drop 1).getD k []) [58]).2.2) = true := bnot_false hs130
                                    refine AtL.move (.inr ⟨_, _, _, rfl, rfl, rfl, rfl⟩) rfl rfl ?_
                                    refine AtL.call tf_body99 (.inr ⟨_, _, _, rfl, rfl, rfl, rfl⟩) rfl rfl (word_ok (l := (Lib.cut ((ls.drop 1).getD k []) [58]).1) (by omega) 64) ?_
                                    rintro _ _ ⟨rfl, rfl⟩
                                    refine AtL.not (.inr ⟨_, _, _, rfl, rfl, rfl, rfl⟩) rfl rfl ?_
                                    refine AtL.pickF (.inl rfl) rfl rfl rfl ?_
                                    exact J _ (by exact ⟨(boolIs (by clear J; first | (simp [hs130]; done) | (simp_all; done) | grind)), rfl, rfl, rfl, rfl, rfl, rfl, rfl, trivial⟩)
                                · skip
                                  refine AtL.move (.inl rfl) rfl rfl ?_
                                  refine AtL.join 4 (E' := [(139, .bool (decide (((((Lib.cut ((ls.drop 1).getD k []) [58]).2.2) = false) ∨ ((wordF ((Lib.cut ((ls.drop 1).getD k []) [58]).1) 64) = false)) ∨ ((valueF (Lib.trimS ((Lib.cut ((ls.drop 1).getD k []) [58]).2.1) [9, 32])) = false)))), (2, .pointer (some ⟨b1, 0, none⟩)), (9, .pointer (some ⟨b15, 0, none⟩)), (12, str ((Lib.cut ((ls.drop 1).getD k []) [58]).1)), (13, str (Lib.trimS ((Lib.cut ((ls.drop 1).getD k []) [58]).2.1) [9, 32])), (109, .slice A17 (ls.drop 1).length C18), (110, .int .i64 ((ls.drop 1).length : Int)), (111, .int .i64 (k : Int))]) (H' := [(b15, .cells #[str ((spF 32 (ls.getD 0 [])).getD 0 []), str ((spF 32 (ls.getD 0 [])).getD 1 []), .int .i64 ((((spF 32 (ls.getD 0 [])).getD 2 []).getD 7 0 - 48).toNat : Int), .slice x.A x.l.length x.C] 47 (0, 0))] :: x.s :: s5 :: [(b1, .cells #[str [], str [], .int .i64 0, .slice none 0 0] 47 (0, 0))] :: H) (fun J => ?_) ?_
                                  · refine AtL.split (t := 135) rfl ?_ ?_
                                    · intro hs135
                                      have hs135 : (((Lib.cut ((ls.drop 1).getD k []) [58]).2.2) = false) ∨ ((wordF ((Lib.cut ((ls.drop 1).getD k []) [58]).1) 64) = false) := of_decide_eq_true hs135
                                      refine AtL.skipped rfl rfl rfl rfl rfl rfl ?_
                                      refine AtL.skipped rfl rfl rfl rfl rfl rfl ?_
                                      refine AtL.skipped rfl rfl rfl rfl rfl rfl ?_
                                      refine AtL.pickT (.inl rfl) rfl rfl rfl ?_
                                      exact J _ (by exact ⟨(boolIs (by clear J; first | (simp [hs135]; done) | (simp_all; done) | grind)), rfl, rfl, rfl, rfl, rfl, rfl, rfl, trivial⟩)
                                    · intro hs135
                                      have hs135 : ¬ ((((Lib.cut ((ls.drop 1).getD k []) [58]).2.2) = false) ∨ ((wordF ((Lib.cut ((ls.drop 1).getD k []) [58]).1) 64) = false)) := of_decide_eq_false hs135
                                      refine AtL.move (.inr ⟨_, _, _, rfl, rfl, rfl, rfl⟩) rfl rfl ?_
                                      refine AtL.call tf_body103 (.inr ⟨_, _, _, rfl, rfl, rfl, rfl⟩) rfl rfl (value_ok (l := Lib.trimS ((Lib.cut ((ls.drop 1).getD k []) [58]).2.1) [9, 32]) (by omega)) ?_
                                      rintro _ _ ⟨rfl, rfl⟩
                                      refine AtL.not (.inr ⟨_, _, _, rfl, rfl, rfl, rfl⟩) rfl rfl ?_
                                      refine AtL.pickF (.inl rfl) rfl rfl rfl ?_
                                      exact J _ (by exact ⟨(boolIs (by clear J; first | (simp [hs135]; done) | (simp_all; done) | grind)), rfl, rfl, rfl, rfl, rfl, rfl, rfl, trivial⟩)
                                  · skip
                                    refine AtL.done ?_
                                    refine At.cond rfl ?_ ?_
                                    · intro hc10
                                      have hc10 : ((((Lib.cut ((ls.drop 1).getD k []) [58]).2.2) = false) ∨ ((wordF ((Lib.cut ((ls.drop 1).getD k []) [58]).1) 64) = false)) ∨ ((valueF (Lib.trimS ((Lib.cut ((ls.drop 1).getD k []) [58]).2.1) [9, 32])) = false) := of_decide_eq_true hc10
                                      refine At.seq ?_
                                      refine At.region ?_
                                      refine AtL.build (cs := [str [], str [], .int .i64 0, .slice none 0 0]) tf_lay47 (.inl rfl) rfl rfl rfl ?_
                                      refine AtL.store (H' := [(b15, .cells #[str ((spF 32 (ls.getD 0 [])).getD 0 []), str ((spF 32 (ls.getD 0 [])).getD 1 []), .int .i64 ((((spF 32 (ls.getD 0 [])).getD 2 []).getD 7 0 - 48).toNat : Int), .slice x.A x.l.length x.C] 47 (0, 0))] :: x.s :: s5 :: [(b1, .cells #[str [], str [], .int .i64 0, .slice none 0 0] 47 (0, 0))] :: H) 3 0 tf_sz47 (.inl rfl) rfl rfl rfl rfl rfl rfl rfl rfl rfl ?_
                                      refine AtL.assign (.inl rfl) rfl rfl ?_
                                      refine AtL.done ?_
                                      refine At.nil ?_
                                      have hp : parseF b = (.zero, 400) := by rw [hp0, headF_eq, if_neg hn3, if_neg (by rw [hver]; simp), if_neg (by rw [← (ver_dig hver).1, ← (ver_dig hver).2]; exact hc5), if_neg (by omega), if_neg (by simpa using hc7), hfl, hst, if_neg (by omega), if_pos (by simpa only [or_assoc, Bool.not_eq_true', Bool.not_eq_false, Bool.not_eq_true] using hc10)]
                                      exact At.retMP (vs := [.agg #[str [], str [], .int .i64 0, .slice none 0 0], .int .i64 400]) (H2 := [] :: H) [0] 5 rfl rfl Tryz.func60 rfl ⟨⟨_, rfl, LoadsTo.agg (cs := [str [], str [], .int .i64 0, .slice none 0 0]) tf_agg47 rfl (cellsOwn 4 0 0 rfl rfl rfl)⟩, rfl, trivial⟩ (⟨Sl.nil, by rw [hp]; rfl, by rw [hp]; rfl, rfl⟩)
                                    · intro hc10
                                      have hc10 : ¬ (((((Lib.cut ((ls.drop 1).getD k []) [58]).2.2) = false) ∨ ((wordF ((Lib.cut ((ls.drop 1).getD k []) [58]).1) 64) = false)) ∨ ((valueF (Lib.trimS ((Lib.cut ((ls.drop 1).getD k []) [58]).2.1) [9, 32])) = false)) := of_decide_eq_false hc10
                                      refine At.skip ?_
                                      refine At.region ?_
                                      refine AtL.fieldAddrB tf_fo47_3 (.inl rfl) rfl rfl rfl ?_
                                      refine AtL.load tf_flat45 (.inl rfl) rfl rfl (Cell.own 0 0 rfl rfl rfl) ?_
                                      refine AtL.move (.inl rfl) rfl rfl ?_
                                      refine AtL.move (.inl rfl) rfl rfl ?_
                                      refine AtL.build (cs := [str ((Lib.cut ((ls.drop 1).getD k []) [58]).1), str (Lib.trimS ((Lib.cut ((ls.drop 1).getD k []) [58]).2.1) [9, 32])]) tf_lay78 (.inl rfl) rfl rfl rfl ?_
                                      refine AtL.buildSlice (cs := [str ((Lib.cut ((ls.drop 1).getD k []) [58]).1), str (Lib.trimS ((Lib.cut ((ls.drop 1).getD k []) [58]).2.1) [9, 32])]) Tryz.underlying45 tf_zero78 tf_sz78 rfl rfl (.inl rfl) rfl rfl rfl ?_
                                      intro b20
                                      refine AtL.own1 tyField (l := ([((Lib.cut ((ls.drop 1).getD k []) [58]).1, Lib.trimS ((Lib.cut ((ls.drop 1).getD k []) [58]).2.1) [9, 32])] : List (List UInt8 × List UInt8))) rfl rfl (by first | decide | simp) ?_
                                      intro s21 o22
                                      refine AtL.append (l := x.l) (news := [((Lib.cut ((ls.drop 1).getD k []) [58]).1, Lib.trimS ((Lib.cut ((ls.drop 1).getD k []) [58]).2.1) [9, 32])]) 2 tf_el45 rfl x.own (o22.rd (i := 0) rfl) (by first | omega | (simp only [List.length_append, List.length_cons, List.length_nil]; omega) | (simp; done) | (simp; omega)) (.inl rfl) rfl rfl rfl ?_
                                      intro A23 C24 s25 o26
                                      refine AtL.fieldAddrB tf_fo47_3 (.inl rfl) rfl rfl rfl ?_
                                      refine AtL.store (H' := s21 :: [(b15, .cells #[str ((spF 32 (ls.getD 0 [])).getD 0 []), str ((spF 32 (ls.getD 0 [])).getD 1 []), .int .i64 ((((spF 32 (ls.getD 0 [])).getD 2 []).getD 7 0 - 48).toNat : Int), .slice A23 (x.l ++ ([((Lib.cut ((ls.drop 1).getD k []) [58]).1, Lib.trimS ((Lib.cut ((ls.drop 1).getD k []) [58]).2.1) [9, 32])])).length C24] 47 (0, 0))] :: s25 :: s5 :: [(b1, .cells #[str [], str [], .int .i64 0, .slice none 0 0] 47 (0, 0))] :: H) 1 0 tf_sz45 (.inl rfl) rfl rfl rfl rfl rfl rfl rfl rfl rfl ?_
                                      refine AtL.done ?_
                                      refine At.inBlock ?_
                                      refine At.region ?_
                                      refine AtL.add (z := (k : Int) + 1) (.inl rfl) rfl rfl rfl (w64 (by omega) (by omega)) ?_
                                      refine AtL.move (.inl rfl) rfl rfl ?_
                                      refine AtL.done ?_
                                      refine At.pick (H' := [(b15, .cells #[str ((spF 32 (ls.getD 0 [])).getD 0 []), str ((spF 32 (ls.getD 0 [])).getD 1 []), .int .i64 ((((spF 32 (ls.getD 0 [])).getD 2 []).getD 7 0 - 48).toNat : Int), .slice A23 (x.l ++ ([((Lib.cut ((ls.drop 1).getD k []) [58]).1, Lib.trimS ((Lib.cut ((ls.drop 1).getD k []) [58]).2.1) [9, 32])])).length C24] 47 (0, 0))] :: s25 :: s5 :: [(b1, .cells #[str [], str [], .int .i64 0, .slice none 0 0] 47 (0, 0))] :: H) [1, 2, 3, 4] 5 rfl rfl ?_
                                      refine ihL1 (k + 1) (⟨A23, C24, x.l ++ ([((Lib.cut ((ls.drop 1).getD k []) [58]).1, Lib.trimS ((Lib.cut ((ls.drop 1).getD k []) [58]).2.1) [9, 32])]), s25, o26⟩) (⟨by omega, ⟨by simp; omega, by omega⟩, by rw [hfl, hst, if_neg (by omega), if_neg (by simp only [not_or] at hc10 ⊢; exact ⟨by simpa using hc10.1.1, by simpa using hc10.1.2, by simpa using hc10.2⟩)]; cases fieldsF ((ls.drop 1).drop (k + 1)) (k + 1) <;> simp, fun f hf => by
                                            rcases List.mem_append.1 hf with hf | hf
                                            · exact hxb f hf
                                            · simp only [List.mem_singleton] at hf; subst hf; exact ⟨by dsimp only; omega, by dsimp only; omega⟩⟩) (by omega) _ ?_
                                      exact ⟨rfl, rfl, rfl, rfl, (by first | rfl | exact slLen (by simp [hxl]) | exact intEq (by omega) | exact intEq (by simp [hxl]) | exact slLen (by simp [hxl]; omega)), trivial⟩
                            · intro hc8
                              have hc8 : ¬ ((k : Int) < ((ls.drop 1).length : Int)) := of_decide_eq_false hc8
                              refine At.exit rfl ?_
                              refine At.seq ?_
                              refine At.seq ?_
                              refine At.region ?_
                              refine AtL.loadN (cs := [str ((spF 32 (ls.getD 0 [])).getD 0 []), str ((spF 32 (ls.getD 0 [])).getD 1 []), .int .i64 ((((spF 32 (ls.getD 0 [])).getD 2 []).getD 7 0 - 48).toNat : Int), .slice x.A x.l.length x.C]) tf_agg47 (.inl rfl) rfl rfl rfl (cellsOwn 0 0 0 rfl rfl rfl) ?_
                              refine AtL.call tf_body104 (.inl rfl) rfl rfl (hosts_ok (fs := x.l) (x.own.rd (i := 1) rfl) (by omega) (fun f hf => by have := hxb f hf; omega)) ?_
                              rintro _ _ ⟨rfl, rfl⟩
                              refine AtL.not (.inl rfl) rfl rfl ?_
                              refine AtL.done ?_
                              refine At.cond rfl ?_ ?_
                              · intro hc11
                                have hc11 : (hostsF x.l ((((spF 32 (ls.getD 0 [])).getD 2 []).getD 7 0 - 48).toNat : Int)) = false := bnot_true hc11
                                refine At.seq ?_
                                refine At.region ?_
                                refine AtL.build (cs := [str [], str [], .int .i64 0, .slice none 0 0]) tf_lay47 (.inl rfl) rfl rfl rfl ?_
                                refine AtL.store (H' := [(b15, .cells #[str ((spF 32 (ls.getD 0 [])).getD 0 []), str ((spF 32 (ls.getD 0 [])).getD 1 []), .int .i64 ((((spF 32 (ls.getD 0 [])).getD 2 []).getD 7 0 - 48).toNat : Int), .slice x.A x.l.length x.C] 47 (0, 0))] :: x.s :: s5 :: [(b1, .cells #[str [], str [], .int .i64 0, .slice none 0 0] 47 (0, 0))] :: H) 3 0 tf_sz47 (.inl rfl) rfl rfl rfl rfl rfl rfl rfl rfl rfl ?_
                                refine AtL.assign (.inl rfl) rfl rfl ?_
                                refine AtL.done ?_
                                refine At.nil ?_
                                have hend : fieldsF (ls.drop 1) 0 = .inr x.l := by rw [hfl, List.drop_eq_nil_of_le (by omega), fieldsF]; simp
                                have hp : parseF b = (.zero, 400) := by rw [hp0, headF_eq, if_neg hn3, if_neg (by rw [hver]; simp), if_neg (by rw [← (ver_dig hver).1, ← (ver_dig hver).2]; exact hc5), if_neg (by omega), if_neg (by simpa using hc7), hend]; simp only []; rw [if_neg (by simpa using hc11)]
                                exact At.retMP (vs := [.agg #[str [], str [], .int .i64 0, .slice none 0 0], .int .i64 400]) (H2 := [] :: H) [0] 5 rfl rfl Tryz.func60 rfl ⟨⟨_, rfl, LoadsTo.agg (cs := [str [], str [], .int .i64 0, .slice none 0 0]) tf_agg47 rfl (cellsOwn 4 0 0 rfl rfl rfl)⟩, rfl, trivial⟩ (⟨Sl.nil, by rw [hp]; rfl, by rw [hp]; rfl, rfl⟩)
                              · intro hc11
                                have hc11 : (hostsF x.l ((((spF 32 (ls.getD 0 [])).getD 2 []).getD 7 0 - 48).toNat : Int)) = true := bnot_false hc11
                                refine At.skip ?_
                                refine At.seq ?_
                                refine At.region ?_
                                refine AtL.loadN (cs := [str ((spF 32 (ls.getD 0 [])).getD 0 []), str ((spF 32 (ls.getD 0 [])).getD 1 []), .int .i64 ((((spF 32 (ls.getD 0 [])).getD 2 []).getD 7 0 - 48).toNat : Int), .slice x.A x.l.length x.C]) tf_agg47 (.inl rfl) rfl rfl rfl (cellsOwn 0 0 0 rfl rfl rfl) ?_
                                refine AtL.store (H' := [(b15, .cells #[str ((spF 32 (ls.getD 0 [])).getD 0 []), str ((spF 32 (ls.getD 0 [])).getD 1 []), .int .i64 ((((spF 32 (ls.getD 0 [])).getD 2 []).getD 7 0 - 48).toNat : Int), .slice x.A x.l.length x.C] 47 (0, 0))] :: x.s :: s5 :: [(b1, .cells #[str ((spF 32 (ls.getD 0 [])).getD 0 []), str ((spF 32 (ls.getD 0 [])).getD 1 []), .int .i64 ((((spF 32 (ls.getD 0 [])).getD 2 []).getD 7 0 - 48).toNat : Int), .slice x.A x.l.length x.C] 47 (0, 0))] :: H) 3 0 tf_sz47 (.inl rfl) rfl rfl rfl rfl rfl rfl rfl rfl rfl ?_
                                refine AtL.assign (.inl rfl) rfl rfl ?_
                                refine AtL.done ?_
                                have hend : fieldsF (ls.drop 1) 0 = .inr x.l := by rw [hfl, List.drop_eq_nil_of_le (by omega), fieldsF]; simp
                                have hp : parseF b = (⟨(spF 32 (ls.getD 0 [])).getD 0 [], (spF 32 (ls.getD 0 [])).getD 1 [], ((((spF 32 (ls.getD 0 [])).getD 2 []).getD 7 0 - 48).toNat : Int), x.l⟩, 200) := by rw [hp0, headF_eq, if_neg hn3, if_neg (by rw [hver]; simp), if_neg (by rw [← (ver_dig hver).1, ← (ver_dig hver).2]; exact hc5), if_neg (by omega), if_neg (by simpa using hc7), hend]; simp only []; rw [if_pos (by simpa using hc11)]
                                exact At.retMP (vs := [.agg #[str ((spF 32 (ls.getD 0 [])).getD 0 []), str ((spF 32 (ls.getD 0 [])).getD 1 []), .int .i64 ((((spF 32 (ls.getD 0 [])).getD 2 []).getD 7 0 - 48).toNat : Int), .slice x.A x.l.length x.C], .int .i64 200]) (H2 := x.s :: H) [1] 4 rfl rfl Tryz.func60 rfl ⟨⟨_, rfl, LoadsTo.agg (cs := [str ((spF 32 (ls.getD 0 [])).getD 0 []), str ((spF 32 (ls.getD 0 [])).getD 1 []), .int .i64 ((((spF 32 (ls.getD 0 [])).getD 2 []).getD 7 0 - 48).toNat : Int), .slice x.A x.l.length x.C]) tf_agg47 rfl (cellsOwn 3 0 0 rfl rfl rfl)⟩, rfl, trivial⟩ (⟨x, by rw [hp]; rfl, by rw [hp], rfl⟩)
                  · skip
                    refine AtL.call tf_body100 (.inl rfl) rfl rfl (version_no (l := (spF 32 (ls.getD 0 [])).getD 2 []) (by have := hw ((spF 32 (ls.getD 0 [])).getD 2 []) (getD_mem (l := spF 32 (ls.getD 0 [])) (i := 2) (by omega)); omega) hver) ?_
                    rintro _ _ ⟨rfl, rfl⟩
                    refine AtL.move (.inl rfl) rfl rfl ?_
                    refine AtL.extract (.inl rfl) rfl rfl rfl ?_
                    refine AtL.extract (.inl rfl) rfl rfl rfl ?_
                    refine AtL.extract (.inl rfl) rfl rfl rfl ?_
                    refine AtL.assign (.inl rfl) rfl rfl ?_
                    refine AtL.assign (.inl rfl) rfl rfl ?_
                    refine AtL.assign (.inl rfl) rfl rfl ?_
                    refine AtL.done ?_
                    refine At.seq ?_
                    refine At.block ?_
                    refine At.seq ?_
                    refine At.region ?_
                    refine AtL.move (.inl rfl) rfl rfl ?_
                    refine AtL.not (.inl rfl) rfl rfl ?_
                    refine AtL.assign (.inl rfl) rfl rfl ?_
                    refine AtL.done ?_
                    refine At.condT rfl ?_
                    refine At.seq ?_
                    refine At.region ?_
                    refine AtL.build (cs := [str [], str [], .int .i64 0, .slice none 0 0]) tf_lay47 (.inl rfl) rfl rfl rfl ?_
                    refine AtL.store (H' := s11 :: s5 :: [(b1, .cells #[str [], str [], .int .i64 0, .slice none 0 0] 47 (0, 0))] :: H) 2 0 tf_sz47 (.inl rfl) rfl rfl rfl rfl rfl rfl rfl rfl rfl ?_
                    refine AtL.assign (.inl rfl) rfl rfl ?_
                    refine AtL.done ?_
                    refine At.nil ?_
                    have hp : parseF b = (.zero, 400) := by rw [hp0, headF_eq, if_neg hn3, if_pos hver]
                    exact At.retMP (vs := [.agg #[str [], str [], .int .i64 0, .slice none 0 0], .int .i64 400]) (H2 := [] :: H) [0] 4 rfl rfl Tryz.func60 rfl ⟨⟨_, rfl, LoadsTo.agg (cs := [str [], str [], .int .i64 0, .slice none 0 0]) tf_agg47 rfl (cellsOwn 3 0 0 rfl rfl rfl)⟩, rfl, trivial⟩ (⟨Sl.nil, by rw [hp]; rfl, by rw [hp]; rfl, rfl⟩)
end Go.Proofs.YtlkdmbpbjhjkfaaGreatDoor
namespace Go.Proofs.YtlkdmbpbjhjkfaaGreatDoor
set_option linter.unusedVariables false
set_option linter.unusedSimpArgs false
set_option maxRecDepth 100000
theorem answer_kn {w0 : World} {base : Nat} {H : List Seg} {A : Option Addr} {C : Nat} {b L : List UInt8} {age e : Int} {kp : Bool} (hk : ansF b age kp = (L, e)) (h : Rd tyB w0 base H A C b) (hbl : b.length ≤ 4294967280) (T10 : Tab10 w0 base) :
    SCalls Tryz.prog 14 [.slice A b.length C, int age, .bool kp] w0 base H (fun v H' => ∃ x : Sl tyB 5, x.l = L ∧ v = .tuple #[.slice x.A x.l.length x.C, int e] ∧ H' = x.s :: H) := by
  refine (answer_ok16 h hbl age kp T10).mono ?_
  rintro v H' ⟨x, hx, rfl, rfl⟩
  rw [hk] at hx ⊢
  exact ⟨x, hx, rfl, rfl⟩
theorem read_kn {w0 : World} {base : Nat} {H : List Seg} {A : Option Addr} {C : Nat} {b bd : List UInt8} {fs : List Fld} {st n e : Int} {kp : Bool} (hk : readF b 0 = (⟨st, fs, bd, kp⟩, n, e)) (h : Rd tyB w0 base H A C b) (hbl : b.length ≤ 4294967280) (T : Tabs w0 base) (ET : ErrTab w0 base) (T10 : Tab10 w0 base) :
    SCalls Tryz.prog 39 [.slice A b.length C, int 0] w0 base H (fun v H' => ∃ (x : Sl tyField 78) (y : Sl tyB 5), x.l = fs ∧ y.l = bd ∧ v = .tuple #[.agg #[int st, .slice x.A x.l.length x.C, .slice y.A y.l.length y.C, .bool kp], int n, int e] ∧ H' = x.s :: y.s :: H) := by
  refine (read15_ok 0 h hbl T ET T10).mono ?_
  rintro v H' ⟨R, hR, x, y, hx, hy, rfl, rfl⟩
  rw [hk] at hR
  dsimp only at hR
  subst hR
  exact ⟨x, y, hx, hy, by rw [hk], rfl⟩
theorem write_kn {w0 : World} {base : Nat} {H : List Seg} {m t : List UInt8} {minor : Int} {A : Option Addr} {C : Nat} {fs : List (List UInt8 × List UInt8)} (h : Rd tyField w0 base H A C fs) (hfl : fs.length ≤ 1000) (htot : m.length + t.length + szF fs ≤ 140737488354000) (he : writeE ⟨m, t, minor, fs⟩ = 0) :
    SCalls Tryz.prog 52 [.agg #[str m, str t, int minor, .slice A fs.length C]] w0 base H (fun v H' => ∃ x : Sl tyB 5, x.l = writeL ⟨m, t, minor, fs⟩ ∧ v = .tuple #[.slice x.A x.l.length x.C, int 0] ∧ H' = x.s :: H) := by
  refine (write_ok h hfl htot).mono ?_
  rintro v H' ⟨x, hx, rfl, rfl⟩
  rw [he]
  exact ⟨x, hx, rfl, rfl⟩
theorem parse_kn {w0 : World} {base : Nat} {H : List Seg} {A : Option Addr} {C : Nat} {b : List UInt8} {hd : HeadV} {n : Int} (hp : parseF b = (hd, n)) (h : Rd tyB w0 base H A C b) (T : Tabs w0 base) :
    SCalls Tryz.prog 60 [.slice A b.length C] w0 base H (fun v H' => ∃ x : Sl tyField 78, x.l = hd.fs ∧ v = .tuple #[.agg #[str hd.m, str hd.t, int hd.minor, .slice x.A x.l.length x.C], int n] ∧ H' = x.s :: H) := by
  refine (parse_ok h T).mono ?_
  rintro v H' ⟨x, rfl, hx, rfl⟩
  rw [hp] at hx ⊢
  exact ⟨x, hx, rfl, rfl⟩
theorem back_ok16 {h : HeadV} (he : writeE h = 0) : parseF (writeL h) = (h, 200) := by
  have hw : writeOk h = true := by
    cases hq : writeOk h with
    | true => rfl
    | false => rw [writeE, hq] at he; cases he
  rw [writeL, if_pos hw]
  exact back1 h hw
set_option maxHeartbeats 400000 in
theorem post16_ok {w0 : World} {base : Nat} {H : List Seg}  :
    SCalls Tryz.prog 38 [] w0 base (H) (fun v H' => ∃ x : Sl tyField 78, x.l = PF16 ∧ v = .agg #[str POSTM, str DNSQ, int 1, .slice x.A x.l.length x.C] ∧ H' = x.s :: H) := by
  refine SCalls.of_walk (n := 10) Tryz.func38 rfl rfl rfl fun cs => ?_
  refine At.seq ?_
  refine At.region ?_
  refine AtL.alloc tf_zero47 (cs := #[str [], str [], .int .i64 0, .slice none 0 0]) rfl (.inl rfl) rfl ?_
  intro b1
  refine AtL.done ?_
  refine At.seq ?_
  refine At.region ?_
  refine AtL.call tf_body37 (.inl rfl) rfl rfl (get16_ok (m := [80, 79, 83, 84]) (t := [47, 100, 110, 115, 45, 113, 117, 101, 114, 121])) ?_
  rintro _ _ ⟨⟨A2, C3, l4, s5, o6⟩, hx7, rfl, rfl⟩
  obtain rfl : [(([72, 111, 115, 116] : List UInt8), ([120] : List UInt8))] = l4 := hx7.symm
  refine AtL.alloc tf_zero47 (cs := #[str [], str [], .int .i64 0, .slice none 0 0]) rfl (.inl rfl) rfl ?_
  intro b8
  refine AtL.store (H' := [(b8, .cells #[str [80, 79, 83, 84], str [47, 100, 110, 115, 45, 113, 117, 101, 114, 121], .int .i64 1, .slice A2 ([(([72, 111, 115, 116] : List UInt8), ([120] : List UInt8))]).length C3] 47 (0, 0))] :: s5 :: [(b1, .cells #[str [], str [], .int .i64 0, .slice none 0 0] 47 (0, 0))] :: H) 0 0 tf_sz47 (.inl rfl) rfl rfl rfl rfl rfl rfl rfl rfl rfl ?_
  refine AtL.done ?_
  refine At.seq ?_
  refine At.region ?_
  refine AtL.fieldAddrB tf_fo47_3 (.inl rfl) rfl rfl rfl ?_
  refine AtL.load tf_flat45 (.inl rfl) rfl rfl (Cell.own 0 0 rfl rfl rfl) ?_
  refine AtL.build (cs := [str [99, 111, 110, 116, 101, 110, 116, 45, 116, 121, 112, 101], str [97, 112, 112, 108, 105, 99, 97, 116, 105, 111, 110, 47, 100, 110, 115, 45, 109, 101, 115, 115, 97, 103, 101]]) tf_lay78 (.inl rfl) rfl rfl rfl ?_
  refine AtL.buildSlice (cs := [str [99, 111, 110, 116, 101, 110, 116, 45, 116, 121, 112, 101], str [97, 112, 112, 108, 105, 99, 97, 116, 105, 111, 110, 47, 100, 110, 115, 45, 109, 101, 115, 115, 97, 103, 101]]) Tryz.underlying45 tf_zero78 tf_sz78 rfl rfl (.inl rfl) rfl rfl rfl ?_
  intro b9
  refine AtL.own1 tyField (l := ([(([99, 111, 110, 116, 101, 110, 116, 45, 116, 121, 112, 101] : List UInt8), ([97, 112, 112, 108, 105, 99, 97, 116, 105, 111, 110, 47, 100, 110, 115, 45, 109, 101, 115, 115, 97, 103, 101] : List UInt8))] : List (List UInt8 × List UInt8))) rfl rfl (by first | decide | simp) ?_
  intro s10 o11
  refine AtL.append (l := [(([72, 111, 115, 116] : List UInt8), ([120] : List UInt8))]) (news := [(([99, 111, 110, 116, 101, 110, 116, 45, 116, 121, 112, 101] : List UInt8), ([97, 112, 112, 108, 105, 99, 97, 116, 105, 111, 110, 47, 100, 110, 115, 45, 109, 101, 115, 115, 97, 103, 101] : List UInt8))]) 2 tf_el45 rfl o6 (o11.rd (i := 0) rfl) (by first | omega | (simp only [List.length_append, List.length_cons, List.length_nil]; omega) | (simp; done) | (simp; omega)) (.inl rfl) rfl rfl rfl ?_
  intro A12 C13 s14 o15
  refine AtL.fieldAddrB tf_fo47_3 (.inl rfl) rfl rfl rfl ?_
  refine AtL.store (H' := s10 :: [(b8, .cells #[str [80, 79, 83, 84], str [47, 100, 110, 115, 45, 113, 117, 101, 114, 121], .int .i64 1, .slice A12 (([(([72, 111, 115, 116] : List UInt8), ([120] : List UInt8))]) ++ ([(([99, 111, 110, 116, 101, 110, 116, 45, 116, 121, 112, 101] : List UInt8), ([97, 112, 112, 108, 105, 99, 97, 116, 105, 111, 110, 47, 100, 110, 115, 45, 109, 101, 115, 115, 97, 103, 101] : List UInt8))])).length C13] 47 (0, 0))] :: s14 :: [(b1, .cells #[str [], str [], .int .i64 0, .slice none 0 0] 47 (0, 0))] :: H) 1 0 tf_sz45 (.inl rfl) rfl rfl rfl rfl rfl rfl rfl rfl rfl ?_
  refine AtL.done ?_
  refine At.seq ?_
  refine At.region ?_
  refine AtL.loadN (cs := [str [80, 79, 83, 84], str [47, 100, 110, 115, 45, 113, 117, 101, 114, 121], .int .i64 1, .slice A12 (([(([72, 111, 115, 116] : List UInt8), ([120] : List UInt8))]) ++ ([(([99, 111, 110, 116, 101, 110, 116, 45, 116, 121, 112, 101] : List UInt8), ([97, 112, 112, 108, 105, 99, 97, 116, 105, 111, 110, 47, 100, 110, 115, 45, 109, 101, 115, 115, 97, 103, 101] : List UInt8))])).length C13]) tf_agg47 (.inl rfl) rfl rfl rfl (cellsOwn 1 0 0 rfl rfl rfl) ?_
  refine AtL.store (H' := s10 :: [(b8, .cells #[str [80, 79, 83, 84], str [47, 100, 110, 115, 45, 113, 117, 101, 114, 121], .int .i64 1, .slice A12 (([(([72, 111, 115, 116] : List UInt8), ([120] : List UInt8))]) ++ ([(([99, 111, 110, 116, 101, 110, 116, 45, 116, 121, 112, 101] : List UInt8), ([97, 112, 112, 108, 105, 99, 97, 116, 105, 111, 110, 47, 100, 110, 115, 45, 109, 101, 115, 115, 97, 103, 101] : List UInt8))])).length C13] 47 (0, 0))] :: s14 :: [(b1, .cells #[str [80, 79, 83, 84], str [47, 100, 110, 115, 45, 113, 117, 101, 114, 121], .int .i64 1, .slice A12 (([(([72, 111, 115, 116] : List UInt8), ([120] : List UInt8))]) ++ ([(([99, 111, 110, 116, 101, 110, 116, 45, 116, 121, 112, 101] : List UInt8), ([97, 112, 112, 108, 105, 99, 97, 116, 105, 111, 110, 47, 100, 110, 115, 45, 109, 101, 115, 115, 97, 103, 101] : List UInt8))])).length C13] 47 (0, 0))] :: H) 3 0 tf_sz47 (.inl rfl) rfl rfl rfl rfl rfl rfl rfl rfl rfl ?_
  refine AtL.done ?_
  exact At.retMP (vs := [.agg #[str [80, 79, 83, 84], str [47, 100, 110, 115, 45, 113, 117, 101, 114, 121], .int .i64 1, .slice A12 (([(([72, 111, 115, 116] : List UInt8), ([120] : List UInt8))]) ++ ([(([99, 111, 110, 116, 101, 110, 116, 45, 116, 121, 112, 101] : List UInt8), ([97, 112, 112, 108, 105, 99, 97, 116, 105, 111, 110, 47, 100, 110, 115, 45, 109, 101, 115, 115, 97, 103, 101] : List UInt8))])).length C13]]) (H2 := s14 :: H) [2] 4 rfl rfl Tryz.func38 rfl ⟨⟨_, rfl, LoadsTo.agg (cs := [str [80, 79, 83, 84], str [47, 100, 110, 115, 45, 113, 117, 101, 114, 121], .int .i64 1, .slice A12 (([(([72, 111, 115, 116] : List UInt8), ([120] : List UInt8))]) ++ ([(([99, 111, 110, 116, 101, 110, 116, 45, 116, 121, 112, 101] : List UInt8), ([97, 112, 112, 108, 105, 99, 97, 116, 105, 111, 110, 47, 100, 110, 115, 45, 109, 101, 115, 115, 97, 103, 101] : List UInt8))])).length C13]) tf_agg47 rfl (cellsOwn 3 0 0 rfl rfl rfl)⟩, trivial⟩ (⟨⟨A12, C13, ([(([72, 111, 115, 116] : List UInt8), ([120] : List UInt8))]) ++ ([(([99, 111, 110, 116, 101, 110, 116, 45, 116, 121, 112, 101] : List UInt8), ([97, 112, 112, 108, 105, 99, 97, 116, 105, 111, 110, 47, 100, 110, 115, 45, 109, 101, 115, 115, 97, 103, 101] : List UInt8))]), s14, o15⟩, rfl, rfl, rfl⟩)
theorem get16k {w0 : World} {base : Nat} {H : List Seg} {m t m' : List UInt8} (hm : m' = m) : SCalls Tryz.prog 37 [str m', str t] w0 base H (fun v H' => ∃ x : Sl tyField 78, x.l = HO16 ∧ v = .agg #[str m, str t, int 1, .slice x.A x.l.length x.C] ∧ H' = x.s :: H) := by
  subst hm; exact get16_ok
end Go.Proofs.YtlkdmbpbjhjkfaaGreatDoor
namespace Go.Proofs.YtlkdmbpbjhjkfaaGreatDoor
set_option linter.unusedVariables false
open Go Machine
def PCalls (P : Program) (f : FuncId) (args : List Value) (w0 : World) (base : Nat) (H : List Seg) (R : Value → List Seg → Prop) (Q : List PanicEntry → List Seg → Prop) : Prop :=
  ∀ w, Sep w0 base w H → Calls P f args.toArray w fun e w' => (∃ v H', e = .returned v ∧ R v H' ∧ Sep w0 base w' H') ∨ ∃ ch H', e = .panicked ch ∧ Q ch H' ∧ Sep w0 base w' H'
def LeftQ (P : Program) (f : FuncId) (cs : List Frame) (w0 : World) (base : Nat) (R : Value → List Seg → Prop) (Q : List PanicEntry → List Seg → Prop) (m : Machine) : Prop :=
  Left P f cs w0 base R m ∨ ∃ ch H' fr w', m = lone fr cs w' ∧ fr.fn = f ∧ fr.leaving P w' (.panicked ch) ∧ Q ch H' ∧ Sep w0 base w' H'
theorem PCalls.of_walk {P : Program} {f : FuncId} {fn : Func} {c : Code} {n : Nat} {args : List Value} {w0 : World} {base : Nat} {H : List Seg} {R : Value → List Seg → Prop} {Q : List PanicEntry → List Seg → Prop}
    (hf : P.funcs[f]? = some fn) (hb : fn.body = some c) (hn : fn.ntmps = n) (hle : Nat.ble args.length n = true)
    (h : ∀ cs, At ⟨P, ⟨f, .normal, none⟩, n, cs, LeftQ P f cs w0 base R Q, w0, base⟩ [.code c] (argsEnv args 0) [] H) : PCalls P f args w0 base H R Q := by
  intro w S cs
  have hle := Nat.le_of_ble_eq_true hle
  have hA : Agree n (args.toArray ++ Array.replicate (n - args.length) undef) (argsEnv args 0) := by
    refine ⟨by simp; omega, fun t v hv => ?_⟩
    obtain ⟨_, h2⟩ := argsEnv_get hv
    rw [Nat.sub_zero] at h2
    have hlt := (List.getElem?_eq_some_iff.1 h2).1
    rw [Array.getD_eq_getD_getElem?, Array.getElem?_append_left (by simpa using hlt)]
    simp [h2]
  have henter : Frame.enter P f args.toArray .normal = Ctx.fr ⟨f, .normal, none⟩ (args.toArray ++ Array.replicate (n - args.length) undef) [] [.code c] := by
    simp [Frame.enter, Ctx.fr, hf, hb, hn]
  obtain ⟨m', hs, hL⟩ := h cs _ w hA S
  rcases hL with ⟨v, H', fr, w', rfl, h1, h2, h3, h4⟩ | ⟨ch, H', fr, w', rfl, h1, h2, h3, h4⟩
  · exact ⟨.returned v, w', fr, .inl ⟨v, H', rfl, h3, h4⟩, by rw [henter]; exact hs, h1, h2⟩
  · exact ⟨.panicked ch, w', fr, .inr ⟨ch, H', rfl, h3, h4⟩, by rw [henter]; exact hs, h1, h2⟩
theorem At.toQ {P : Program} {c : Ctx} {n : Nat} {f : FuncId} {cs : List Frame} {w0 : World} {base : Nat} {R : Value → List Seg → Prop} {Q : List PanicEntry → List Seg → Prop} {k : List Item} {E : Env} {ds : List Deferred} {H : List Seg}
    (h : At ⟨P, c, n, cs, Left P f cs w0 base R, w0, base⟩ k E ds H) : At ⟨P, c, n, cs, LeftQ P f cs w0 base R Q, w0, base⟩ k E ds H := fun a w ha S => by
  obtain ⟨m', h1, h2⟩ := h a w ha S
  exact ⟨m', h1, .inl h2⟩
theorem Un.panicQ {P : Program} {f : FuncId} {fn : Func} {n : Nat} {cs : List Frame} {w0 : World} {base : Nat} {R : Value → List Seg → Prop} {Q : List PanicEntry → List Seg → Prop} {E : Env} {H : List Seg} {ch : List PanicEntry}
    (hf : P.funcs[f]? = some fn) (hQ : Q ch H) : Un ⟨P, ⟨f, .normal, none⟩, n, cs, LeftQ P f cs w0 base R Q, w0, base⟩ (.panicking ch) E [] H := fun a w k ha S =>
  ⟨_, .refl P _, .inr ⟨ch, H, _, w, rfl, rfl, ⟨rfl, rfl, _, hf⟩, hQ, S⟩⟩
theorem AtL.callQ {X : Pt} {k : List Item} {E : Env} {ds : List Deferred} {H : List Seg} {ops : Array Oper} {os : List Oper} {dst : Option Tmp} {ty : TypeId} {pos : String} {after : Array Edge} {g : Option (Nat × Bool)} {R : Value → List Seg → Prop} {Q : List PanicEntry → List Seg → Prop}
    {f : FuncId} {xs : Array Operand} {ts : Array TypeId} {args : List Value} (hb : Body X.P f) (hg : Wd X ops E g) (hd : dstOk X.n dst = true) (hx : evs E xs.toList = some args) (hc : PCalls X.P f args X.w0 X.base H R Q)
    (hp : ∀ ch H', Q ch H' → Un X (.panicking ch) E ds H') (hk : ∀ v H', R v H' → AtL X ops os k (putE E dst v) ds H') :
    AtL X ops (⟨dst, .call ⟨.value (.func f), xs, ts⟩, ty, pos, after, g⟩ :: os) k E ds H := by
  intro is hi a w ha S
  cases is with
  | nil => simp at hi
  | cons i is =>
    simp only [List.map_cons, List.cons.injEq] at hi
    obtain ⟨ho, hi⟩ := hi
    have hρ : ∀ x v, ev E x = some v → evA a x = v := fun x v hx => ha.ev hx
    have hr : (execOp (evA a) ⟨dst, .call ⟨.value (.func f), xs, ts⟩, ty, pos, after, g⟩).run X.P w = .ok (.enter f args.toArray) w := by
      have hf : evA a (.func f) = .func (.func f) #[] #[] := hρ _ _ rfl
      simp [execOp, resolve, hf, Deferred.ofValue, evs_arr hρ hx, invoke, body_run hb]
    obtain ⟨e, w', fr, hR, hcomes, _, hleave⟩ := hc w S (X.c.fr a ds (.inRegion ops (i :: is) :: k) :: X.cs)
    have h1 := go_op_enter (cs := X.cs) (c := X.c) (k := k) (ds := ds) (is := is) ho (hg.wanted (o := ⟨dst, .call ⟨.value (.func f), xs, ts⟩, ty, pos, after, g⟩) ha) (.inl rfl) hr
    rcases hR with ⟨v, H', rfl, hR, S'⟩ | ⟨ch, H', rfl, hQ, S'⟩
    · have h2 := step_leave_returned (cs := X.cs) (c := X.c.fr a ds (.inRegion ops (i :: is) :: k)) hleave
      rw [fr_finish ho] at h2
      exact .steps (.head h1 (Steps.trans hcomes (.one h2))) (hk v H' hR is hi _ _ (ha.put hd v) S')
    · have h2 := step_leave_panicked (cs := X.cs) (c := X.c.fr a ds (.inRegion ops (i :: is) :: k)) hleave
      have h3 : (X.c.fr a ds (.inRegion ops (i :: is) :: k)).raise ch = { X.c.fr a ds (.inRegion ops (i :: is) :: k) with mode := .panicking ch } := rfl
      rw [h3] at h2
      exact .steps (.head h1 (Steps.trans hcomes (.one h2))) (hp ch H' hQ a w' _ ha S')
end Go.Proofs.YtlkdmbpbjhjkfaaGreatDoor
namespace Go.Proofs.YtlkdmbpbjhjkfaaGreatDoor
set_option linter.unusedVariables false
set_option linter.unusedSimpArgs false
set_option maxRecDepth 100000
theorem y_in {P : Program} {lp : Nat} {args : List Value} {w0 : World} {base : Nat} {s : Seg} {Hc T : List Seg} {B : Bool → List Seg → Prop}
    (h : ∀ T', YCalls P lp args w0 base (Hc ++ T') (fun v H' => ∃ (b : Bool) (Hc' : List Seg), v = .bool b ∧ H' = Hc' ++ T' ∧ B b Hc')) : YCalls P lp args w0 base (s :: (Hc ++ T)) (fun v H' => ∃ (b : Bool) (Hc' : List Seg), v = .bool b ∧ H' = s :: (Hc' ++ T) ∧ B b Hc') :=
  (YCalls.perm (perm1 s Hc T) (h (s :: T))).permR fun v H1 ⟨b, Hc', e, eH, hA⟩ => ⟨_, eH ▸ (perm1 s Hc' T).symm, b, Hc', e, rfl, hA⟩
set_option maxHeartbeats 400000 in
theorem all1_ok {w0 : World} {base : Nat} {T Hc : List Seg} {lp bn : Nat} {n : List UInt8} {J : Nat → List Seg → Prop} {K : List Seg → Prop} (hn : n.length ≤ 65535)
    (hY : ∀ u f Hc, u.length ≤ n.length → J (f + 1) Hc → ∀ T', YCalls Tryz.prog lp [str u, .bool true] w0 base (Hc ++ T') (fun v H' => ∃ (b : Bool) (Hc' : List Seg), v = .bool b ∧ H' = Hc' ++ T' ∧ ((b = true → J f Hc') ∧ (b = false → K Hc'))))
    (hF : ∀ f Hc, J f Hc → ∀ T', YCalls Tryz.prog lp [str [], .bool false] w0 base (Hc ++ T') (fun v H' => ∃ (b : Bool) (Hc' : List Seg), v = .bool b ∧ H' = Hc' ++ T' ∧ ((b = true → J f Hc') ∧ (b = false → K Hc'))))
    (h0 : J n.length Hc) :
    SCalls Tryz.prog 230 [.func (.yield lp) #[] #[], .pointer (some ⟨bn, 0, none⟩)] w0 base ([(bn, .cells #[str n] 9 (0, 0))] :: (Hc ++ T)) (fun v H' => ∃ (b : Bool) (f : Nat) (y : List UInt8) (Hc' : List Seg), (b = true → J f Hc') ∧ (b = false → K Hc') ∧ v = .tuple #[] ∧ H' = [(bn, .cells #[str y] 9 (0, 0))] :: (Hc' ++ T)) := by
  refine SCalls.of_walk (n := 43) Tryz.func230 rfl rfl rfl fun cs => ?_
  refine At.block ?_
  refine At.loop3 (fun (y : List UInt8) (f2 : Nat) (Hc2 : List Seg) => [(0, .func (.yield lp) #[] #[]), (1, .pointer (some ⟨bn, 0, none⟩))]) (fun (y : List UInt8) (f2 : Nat) (Hc2 : List Seg) => [(bn, .cells #[str y] 9 (0, 0))] :: (Hc2 ++ T)) (fun (y : List UInt8) (f2 : Nat) (Hc2 : List Seg) => y.length ≤ f2 ∧ J f2 Hc2 ∧ y.length ≤ n.length) (fun (y : List UInt8) (f2 : Nat) (Hc2 : List Seg) => y.length) n n.length Hc (⟨Nat.le_refl _, h0, Nat.le_refl _⟩) ⟨rfl, rfl, trivial⟩ rfl ?_
  rintro y f2 Hc2 ⟨hyf, hJ, hyn⟩ ihL1
  refine At.block ?_
  refine At.seq ?_
  refine At.seq ?_
  refine At.region ?_
  refine AtL.load tf_flat9 (.inl rfl) rfl rfl (Cell.own 0 0 rfl rfl rfl) ?_
  refine AtL.eqs (a := y) (b := [0]) (.inl rfl) rfl rfl rfl ?_
  refine AtL.done ?_
  refine At.cond rfl ?_ ?_
  · intro hc1
    have hc1 : y = [0] := of_decide_eq_true hc1
    exact At.ret Tryz.func230 rfl rfl (⟨true, f2, y, Hc2, fun _ => hJ, fun h => (by cases h), rfl, rfl⟩)
  · intro hc1
    have hc1 : ¬ (y = [0]) := of_decide_eq_false hc1
    refine At.skip ?_
    refine At.seq ?_
    refine At.seq ?_
    rcases Nat.eq_zero_or_pos y.length with hl0 | hl0
    · skip
      refine At.draw (es := []) (pv := [(0, str y), (1, .int .i64 (y.length : Int)), (2, .bool true), (3, .bool true), (4, undef), (5, undef), (6, undef), (7, .bool true), (8, .bool true), (9, undef), (10, undef), (11, undef), (12, .bool true), (13, .bool true), (14, undef), (15, undef), (16, undef), (17, undef), (18, undef), (19, undef), (20, .bool true)]) tf_mixed (by kernel_rfl) (by kernel_rfl) (by kernel_rfl) ?_
      refine ⟨⟨.inr ⟨_, rfl, rfl, .inl ⟨rfl, Do.load tf_flat9 rfl (Cell.own 0 0 rfl rfl rfl)⟩⟩, .inr ⟨_, rfl, rfl, .inl ⟨rfl, Do.lenS (l := y) Tryz.underlying9 rfl⟩⟩, .inr ⟨_, rfl, rfl, .inl ⟨rfl, Do.asBool (Do.eqi rfl rfl) (decide_eq_true (by omega))⟩⟩, .inr ⟨_, rfl, rfl, .inl ⟨rfl, Do.move rfl⟩⟩, .inr ⟨_, rfl, rfl, .inr ⟨⟨_, _, _, rfl, rfl, rfl, rfl⟩, rfl⟩⟩, .inr ⟨_, rfl, rfl, .inr ⟨⟨_, _, _, rfl, rfl, rfl, rfl⟩, rfl⟩⟩, .inr ⟨_, rfl, rfl, .inr ⟨⟨_, _, _, rfl, rfl, rfl, rfl⟩, rfl⟩⟩, .inr ⟨_, rfl, rfl, .inl ⟨rfl, Do.pickT rfl rfl⟩⟩, .inr ⟨_, rfl, rfl, .inl ⟨rfl, Do.move rfl⟩⟩, .inr ⟨_, rfl, rfl, .inr ⟨⟨_, _, _, rfl, rfl, rfl, rfl⟩, rfl⟩⟩, .inr ⟨_, rfl, rfl, .inr ⟨⟨_, _, _, rfl, rfl, rfl, rfl⟩, rfl⟩⟩, .inr ⟨_, rfl, rfl, .inr ⟨⟨_, _, _, rfl, rfl, rfl, rfl⟩, rfl⟩⟩, .inr ⟨_, rfl, rfl, .inl ⟨rfl, Do.pickT rfl rfl⟩⟩, .inr ⟨_, rfl, rfl, .inl ⟨rfl, Do.move rfl⟩⟩, .inr ⟨_, rfl, rfl, .inr ⟨⟨_, _, _, rfl, rfl, rfl, rfl⟩, rfl⟩⟩, .inr ⟨_, rfl, rfl, .inr ⟨⟨_, _, _, rfl, rfl, rfl, rfl⟩, rfl⟩⟩, .inr ⟨_, rfl, rfl, .inr ⟨⟨_, _, _, rfl, rfl, rfl, rfl⟩, rfl⟩⟩, .inr ⟨_, rfl, rfl, .inr ⟨⟨_, _, _, rfl, rfl, rfl, rfl⟩, rfl⟩⟩, .inr ⟨_, rfl, rfl, .inr ⟨⟨_, _, _, rfl, rfl, rfl, rfl⟩, rfl⟩⟩, .inr ⟨_, rfl, rfl, .inr ⟨⟨_, _, _, rfl, rfl, rfl, rfl⟩, rfl⟩⟩, .inr ⟨_, rfl, rfl, .inl ⟨rfl, Do.pickT rfl rfl⟩⟩, trivial⟩, by kernel_rfl, ?_⟩
      refine At.mono (E' := [(0, .func (.yield lp) #[] #[]), (1, .pointer (some ⟨bn, 0, none⟩)), (25, .bool true)]) ⟨rfl, rfl, rfl, trivial⟩ ?_
      refine At.condT rfl ?_
      refine At.seq ?_
      refine At.region ?_
      refine AtL.move (.inl rfl) rfl rfl ?_
      refine AtL.yield (.inl rfl) rfl rfl rfl (y_in (fun T' => hF f2 Hc2 hJ T')) ?_
      rintro _ _ ⟨bb, Hc3, rfl, rfl, hJ3, hK3⟩
      refine AtL.done ?_
      exact At.ret Tryz.func230 rfl rfl (⟨bb, f2, y, Hc3, fun h => hJ3 h, fun h => hK3 h, rfl, rfl⟩)
    · skip
      have hu0 := (y.getD 0 0).toNat_lt
      rcases Decidable.em ((y.getD 0 0).toNat = 0) with hz | hz
      · skip
        refine At.draw (es := []) (pv := [(0, str y), (1, .int .i64 (y.length : Int)), (2, .bool false), (3, .bool false), (4, str y), (5, .int .u8 ((y.getD 0 0).toNat : Int)), (6, .bool true), (7, .bool true), (8, .bool true), (9, undef), (10, undef), (11, undef), (12, .bool true), (13, .bool true), (14, undef), (15, undef), (16, undef), (17, undef), (18, undef), (19, undef), (20, .bool true)]) tf_mixed (by kernel_rfl) (by kernel_rfl) (by kernel_rfl) ?_
        refine ⟨⟨.inr ⟨_, rfl, rfl, .inl ⟨rfl, Do.load tf_flat9 rfl (Cell.own 0 0 rfl rfl rfl)⟩⟩, .inr ⟨_, rfl, rfl, .inl ⟨rfl, Do.lenS (l := y) Tryz.underlying9 rfl⟩⟩, .inr ⟨_, rfl, rfl, .inl ⟨rfl, Do.asBool (Do.eqi rfl rfl) (decide_eq_false (by omega))⟩⟩, .inr ⟨_, rfl, rfl, .inl ⟨rfl, Do.move rfl⟩⟩, .inr ⟨_, rfl, rfl, .inl ⟨⟨_, _, _, rfl, rfl, rfl, rfl⟩, Do.load tf_flat9 rfl (Cell.own 0 0 rfl rfl rfl)⟩⟩, .inr ⟨_, rfl, rfl, .inl ⟨⟨_, _, _, rfl, rfl, rfl, rfl⟩, Do.indexS (l := y) 0 rfl (by omega) Tryz.underlying9 rfl rfl⟩⟩, .inr ⟨_, rfl, rfl, .inl ⟨⟨_, _, _, rfl, rfl, rfl, rfl⟩, Do.asBool (Do.eqi rfl rfl) (decide_eq_true (by omega))⟩⟩, .inr ⟨_, rfl, rfl, .inl ⟨rfl, Do.pickF rfl rfl⟩⟩, .inr ⟨_, rfl, rfl, .inl ⟨rfl, Do.move rfl⟩⟩, .inr ⟨_, rfl, rfl, .inr ⟨⟨_, _, _, rfl, rfl, rfl, rfl⟩, rfl⟩⟩, .inr ⟨_, rfl, rfl, .inr ⟨⟨_, _, _, rfl, rfl, rfl, rfl⟩, rfl⟩⟩, .inr ⟨_, rfl, rfl, .inr ⟨⟨_, _, _, rfl, rfl, rfl, rfl⟩, rfl⟩⟩, .inr ⟨_, rfl, rfl, .inl ⟨rfl, Do.pickT rfl rfl⟩⟩, .inr ⟨_, rfl, rfl, .inl ⟨rfl, Do.move rfl⟩⟩, .inr ⟨_, rfl, rfl, .inr ⟨⟨_, _, _, rfl, rfl, rfl, rfl⟩, rfl⟩⟩, .inr ⟨_, rfl, rfl, .inr ⟨⟨_, _, _, rfl, rfl, rfl, rfl⟩, rfl⟩⟩, .inr ⟨_, rfl, rfl, .inr ⟨⟨_, _, _, rfl, rfl, rfl, rfl⟩, rfl⟩⟩, .inr ⟨_, rfl, rfl, .inr ⟨⟨_, _, _, rfl, rfl, rfl, rfl⟩, rfl⟩⟩, .inr ⟨_, rfl, rfl, .inr ⟨⟨_, _, _, rfl, rfl, rfl, rfl⟩, rfl⟩⟩, .inr ⟨_, rfl, rfl, .inr ⟨⟨_, _, _, rfl, rfl, rfl, rfl⟩, rfl⟩⟩, .inr ⟨_, rfl, rfl, .inl ⟨rfl, Do.pickT rfl rfl⟩⟩, trivial⟩, by kernel_rfl, ?_⟩
        refine At.mono (E' := [(0, .func (.yield lp) #[] #[]), (1, .pointer (some ⟨bn, 0, none⟩)), (25, .bool true)]) ⟨rfl, rfl, rfl, trivial⟩ ?_
        refine At.condT rfl ?_
        refine At.seq ?_
        refine At.region ?_
        refine AtL.move (.inl rfl) rfl rfl ?_
        refine AtL.yield (.inl rfl) rfl rfl rfl (y_in (fun T' => hF f2 Hc2 hJ T')) ?_
        rintro _ _ ⟨bb, Hc3, rfl, rfl, hJ3, hK3⟩
        refine AtL.done ?_
        exact At.ret Tryz.func230 rfl rfl (⟨bb, f2, y, Hc3, fun h => hJ3 h, fun h => hK3 h, rfl, rfl⟩)
      · skip
        rcases Decidable.em (63 < (y.getD 0 0).toNat) with hm | hm
        · skip
          refine At.draw (es := []) (pv := [(0, str y), (1, .int .i64 (y.length : Int)), (2, .bool false), (3, .bool false), (4, str y), (5, .int .u8 ((y.getD 0 0).toNat : Int)), (6, .bool false), (7, .bool false), (8, .bool false), (9, str y), (10, .int .u8 ((y.getD 0 0).toNat : Int)), (11, .bool true), (12, .bool true), (13, .bool true), (14, undef), (15, undef), (16, undef), (17, undef), (18, undef), (19, undef), (20, .bool true)]) tf_mixed (by kernel_rfl) (by kernel_rfl) (by kernel_rfl) ?_
          refine ⟨⟨.inr ⟨_, rfl, rfl, .inl ⟨rfl, Do.load tf_flat9 rfl (Cell.own 0 0 rfl rfl rfl)⟩⟩, .inr ⟨_, rfl, rfl, .inl ⟨rfl, Do.lenS (l := y) Tryz.underlying9 rfl⟩⟩, .inr ⟨_, rfl, rfl, .inl ⟨rfl, Do.asBool (Do.eqi rfl rfl) (decide_eq_false (by omega))⟩⟩, .inr ⟨_, rfl, rfl, .inl ⟨rfl, Do.move rfl⟩⟩, .inr ⟨_, rfl, rfl, .inl ⟨⟨_, _, _, rfl, rfl, rfl, rfl⟩, Do.load tf_flat9 rfl (Cell.own 0 0 rfl rfl rfl)⟩⟩, .inr ⟨_, rfl, rfl, .inl ⟨⟨_, _, _, rfl, rfl, rfl, rfl⟩, Do.indexS (l := y) 0 rfl (by omega) Tryz.underlying9 rfl rfl⟩⟩, .inr ⟨_, rfl, rfl, .inl ⟨⟨_, _, _, rfl, rfl, rfl, rfl⟩, Do.asBool (Do.eqi rfl rfl) (decide_eq_false (by omega))⟩⟩, .inr ⟨_, rfl, rfl, .inl ⟨rfl, Do.pickF rfl rfl⟩⟩, .inr ⟨_, rfl, rfl, .inl ⟨rfl, Do.move rfl⟩⟩, .inr ⟨_, rfl, rfl, .inl ⟨⟨_, _, _, rfl, rfl, rfl, rfl⟩, Do.load tf_flat9 rfl (Cell.own 0 0 rfl rfl rfl)⟩⟩, .inr ⟨_, rfl, rfl, .inl ⟨⟨_, _, _, rfl, rfl, rfl, rfl⟩, Do.indexS (l := y) 0 rfl (by omega) Tryz.underlying9 rfl rfl⟩⟩, .inr ⟨_, rfl, rfl, .inl ⟨⟨_, _, _, rfl, rfl, rfl, rfl⟩, Do.asBool (Do.gtr rfl rfl) (decide_eq_true (by omega))⟩⟩, .inr ⟨_, rfl, rfl, .inl ⟨rfl, Do.pickF rfl rfl⟩⟩, .inr ⟨_, rfl, rfl, .inl ⟨rfl, Do.move rfl⟩⟩, .inr ⟨_, rfl, rfl, .inr ⟨⟨_, _, _, rfl, rfl, rfl, rfl⟩, rfl⟩⟩, .inr ⟨_, rfl, rfl, .inr ⟨⟨_, _, _, rfl, rfl, rfl, rfl⟩, rfl⟩⟩, .inr ⟨_, rfl, rfl, .inr ⟨⟨_, _, _, rfl, rfl, rfl, rfl⟩, rfl⟩⟩, .inr ⟨_, rfl, rfl, .inr ⟨⟨_, _, _, rfl, rfl, rfl, rfl⟩, rfl⟩⟩, .inr ⟨_, rfl, rfl, .inr ⟨⟨_, _, _, rfl, rfl, rfl, rfl⟩, rfl⟩⟩, .inr ⟨_, rfl, rfl, .inr ⟨⟨_, _, _, rfl, rfl, rfl, rfl⟩, rfl⟩⟩, .inr ⟨_, rfl, rfl, .inl ⟨rfl, Do.pickT rfl rfl⟩⟩, trivial⟩, by kernel_rfl, ?_⟩
          refine At.mono (E' := [(0, .func (.yield lp) #[] #[]), (1, .pointer (some ⟨bn, 0, none⟩)), (25, .bool true)]) ⟨rfl, rfl, rfl, trivial⟩ ?_
          refine At.condT rfl ?_
          refine At.seq ?_
          refine At.region ?_
          refine AtL.move (.inl rfl) rfl rfl ?_
          refine AtL.yield (.inl rfl) rfl rfl rfl (y_in (fun T' => hF f2 Hc2 hJ T')) ?_
          rintro _ _ ⟨bb, Hc3, rfl, rfl, hJ3, hK3⟩
          refine AtL.done ?_
          exact At.ret Tryz.func230 rfl rfl (⟨bb, f2, y, Hc3, fun h => hJ3 h, fun h => hK3 h, rfl, rfl⟩)
        · skip
          obtain ⟨f, rfl⟩ : ∃ f, f2 = f + 1 := ⟨f2 - 1, by omega⟩
          have hB1 := u8_le (y.getD 0 0)
          refine At.draw (es := []) (pv := [(0, str y), (1, .int .i64 (y.length : Int)), (2, .bool false), (3, .bool false), (4, str y), (5, .int .u8 ((y.getD 0 0).toNat : Int)), (6, .bool false), (7, .bool false), (8, .bool false), (9, str y), (10, .int .u8 ((y.getD 0 0).toNat : Int)), (11, .bool false), (12, .bool false), (13, .bool false), (14, str y), (15, .int .u8 ((y.getD 0 0).toNat : Int)), (16, .int .i64 ((y.getD 0 0).toNat : Int)), (17, str y), (18, .int .i64 (y.length : Int)), (19, .bool (decide ((y.length : Int) ≤ ((y.getD 0 0).toNat : Int)))), (20, .bool (decide ((y.length : Int) ≤ ((y.getD 0 0).toNat : Int))))]) tf_mixed (by kernel_rfl) (by kernel_rfl) (by kernel_rfl) ?_
          refine ⟨⟨.inr ⟨_, rfl, rfl, .inl ⟨rfl, Do.load tf_flat9 rfl (Cell.own 0 0 rfl rfl rfl)⟩⟩, .inr ⟨_, rfl, rfl, .inl ⟨rfl, Do.lenS (l := y) Tryz.underlying9 rfl⟩⟩, .inr ⟨_, rfl, rfl, .inl ⟨rfl, Do.asBool (Do.eqi rfl rfl) (decide_eq_false (by omega))⟩⟩, .inr ⟨_, rfl, rfl, .inl ⟨rfl, Do.move rfl⟩⟩, .inr ⟨_, rfl, rfl, .inl ⟨⟨_, _, _, rfl, rfl, rfl, rfl⟩, Do.load tf_flat9 rfl (Cell.own 0 0 rfl rfl rfl)⟩⟩, .inr ⟨_, rfl, rfl, .inl ⟨⟨_, _, _, rfl, rfl, rfl, rfl⟩, Do.indexS (l := y) 0 rfl (by omega) Tryz.underlying9 rfl rfl⟩⟩, .inr ⟨_, rfl, rfl, .inl ⟨⟨_, _, _, rfl, rfl, rfl, rfl⟩, Do.asBool (Do.eqi rfl rfl) (decide_eq_false (by omega))⟩⟩, .inr ⟨_, rfl, rfl, .inl ⟨rfl, Do.pickF rfl rfl⟩⟩, .inr ⟨_, rfl, rfl, .inl ⟨rfl, Do.move rfl⟩⟩, .inr ⟨_, rfl, rfl, .inl ⟨⟨_, _, _, rfl, rfl, rfl, rfl⟩, Do.load tf_flat9 rfl (Cell.own 0 0 rfl rfl rfl)⟩⟩, .inr ⟨_, rfl, rfl, .inl ⟨⟨_, _, _, rfl, rfl, rfl, rfl⟩, Do.indexS (l := y) 0 rfl (by omega) Tryz.underlying9 rfl rfl⟩⟩, .inr ⟨_, rfl, rfl, .inl ⟨⟨_, _, _, rfl, rfl, rfl, rfl⟩, Do.asBool (Do.gtr rfl rfl) (decide_eq_false (by omega))⟩⟩, .inr ⟨_, rfl, rfl, .inl ⟨rfl, Do.pickF rfl rfl⟩⟩, .inr ⟨_, rfl, rfl, .inl ⟨rfl, Do.move rfl⟩⟩, .inr ⟨_, rfl, rfl, .inl ⟨⟨_, _, _, rfl, rfl, rfl, rfl⟩, Do.load tf_flat9 rfl (Cell.own 0 0 rfl rfl rfl)⟩⟩, .inr ⟨_, rfl, rfl, .inl ⟨⟨_, _, _, rfl, rfl, rfl, rfl⟩, Do.indexS (l := y) 0 rfl (by omega) Tryz.underlying9 rfl rfl⟩⟩, .inr ⟨_, rfl, rfl, .inl ⟨⟨_, _, _, rfl, rfl, rfl, rfl⟩, Do.convInt (z := ((y.getD 0 0).toNat : Int)) Tryz.underlying5 Tryz.underlying3 rfl (u8_i64 _)⟩⟩, .inr ⟨_, rfl, rfl, .inl ⟨⟨_, _, _, rfl, rfl, rfl, rfl⟩, Do.load tf_flat9 rfl (Cell.own 0 0 rfl rfl rfl)⟩⟩, .inr ⟨_, rfl, rfl, .inl ⟨⟨_, _, _, rfl, rfl, rfl, rfl⟩, Do.lenS (l := y) Tryz.underlying9 rfl⟩⟩, .inr ⟨_, rfl, rfl, .inl ⟨⟨_, _, _, rfl, rfl, rfl, rfl⟩, Do.geq rfl rfl⟩⟩, .inr ⟨_, rfl, rfl, .inl ⟨rfl, Do.pickF rfl rfl⟩⟩, trivial⟩, by kernel_rfl, ?_⟩
          refine At.mono (E' := [(0, .func (.yield lp) #[] #[]), (1, .pointer (some ⟨bn, 0, none⟩)), (25, .bool (decide ((y.length : Int) ≤ ((y.getD 0 0).toNat : Int))))]) ⟨rfl, rfl, rfl, trivial⟩ ?_
          refine At.cond rfl ?_ ?_
          · intro hc2
            have hc2 : (y.length : Int) ≤ ((y.getD 0 0).toNat : Int) := of_decide_eq_true hc2
            refine At.seq ?_
            refine At.region ?_
            refine AtL.move (.inl rfl) rfl rfl ?_
            refine AtL.yield (.inl rfl) rfl rfl rfl (y_in (fun T' => hF (f + 1) Hc2 hJ T')) ?_
            rintro _ _ ⟨bb, Hc3, rfl, rfl, hJ3, hK3⟩
            refine AtL.done ?_
            exact At.ret Tryz.func230 rfl rfl (⟨bb, (f + 1), y, Hc3, fun h => hJ3 h, fun h => hK3 h, rfl, rfl⟩)
          · intro hc2
            have hc2 : ¬ ((y.length : Int) ≤ ((y.getD 0 0).toNat : Int)) := of_decide_eq_false hc2
            refine At.skip ?_
            refine At.seq ?_
            refine At.seq ?_
            have hB2 := u8_le (y.getD 0 0)
            refine At.draw (es := [7]) (pv := [(0, .func (.yield lp) #[] #[]), (1, str y), (2, str y), (3, .int .u8 ((y.getD 0 0).toNat : Int)), (4, .int .i64 ((y.getD 0 0).toNat : Int)), (5, .int .i64 (1 + ((y.getD 0 0).toNat : Int))), (6, str (subl y 1 (1 + ((y.getD 0 0).toNat))))]) tf_mixed (by kernel_rfl) (by kernel_rfl) (by kernel_rfl) ?_
            refine ⟨⟨.inr ⟨_, rfl, rfl, .inl ⟨rfl, Do.move rfl⟩⟩, .inr ⟨_, rfl, rfl, .inl ⟨rfl, Do.load tf_flat9 rfl (Cell.own 0 0 rfl rfl rfl)⟩⟩, .inr ⟨_, rfl, rfl, .inl ⟨rfl, Do.load tf_flat9 rfl (Cell.own 0 0 rfl rfl rfl)⟩⟩, .inr ⟨_, rfl, rfl, .inl ⟨rfl, Do.indexS (l := y) 0 rfl (by omega) Tryz.underlying9 rfl rfl⟩⟩, .inr ⟨_, rfl, rfl, .inl ⟨rfl, Do.convInt (z := ((y.getD 0 0).toNat : Int)) Tryz.underlying5 Tryz.underlying3 rfl (u8_i64 _)⟩⟩, .inr ⟨_, rfl, rfl, .inl ⟨rfl, Do.add (z := 1 + ((y.getD 0 0).toNat : Int)) rfl rfl (w64 (by omega) (by omega))⟩⟩, .inr ⟨_, rfl, rfl, .inl ⟨rfl, Do.sliceS (l := y) 1 (1 + ((y.getD 0 0).toNat)) (evBound_some rfl rfl) (evBound_some rfl rfl) (by omega) (by omega) Tryz.underlying9 rfl⟩⟩, trivial⟩, rfl, rfl, by kernel_rfl, _, rfl, rfl, rfl, _, Do.yield rfl rfl (y_in (fun T' => hY (subl y 1 (1 + ((y.getD 0 0).toNat))) f Hc2 (by rw [subl_len (by omega)]; omega) hJ T')), ?_⟩
            rintro _ _ ⟨bb, Hc3, rfl, rfl, hJ3, hK3⟩
            refine ⟨[(8, .bool (!bb))], rfl, ?_⟩
            refine ⟨⟨.inr ⟨_, rfl, rfl, .inl ⟨rfl, Do.not rfl⟩⟩, .inl (by kernel_rfl), .inl (by kernel_rfl), .inl (by kernel_rfl), .inl (by kernel_rfl), .inl (by kernel_rfl), .inl (by kernel_rfl), .inl (by kernel_rfl), trivial⟩, by kernel_rfl, ?_⟩
            refine At.mono (E' := [(0, .func (.yield lp) #[] #[]), (1, .pointer (some ⟨bn, 0, none⟩)), (36, .bool (!bb))]) ⟨rfl, rfl, rfl, trivial⟩ ?_
            refine At.cond rfl ?_ ?_
            · intro hc3
              have hc3 : bb = false := bnot_true hc3
              exact At.ret Tryz.func230 rfl rfl (⟨false, 0, y, Hc3, fun h => (by cases h), fun _ => hK3 (by simpa using hc3), rfl, rfl⟩)
            · intro hc3
              have hc3 : bb = true := bnot_false hc3
              refine At.skip ?_
              have hB3 := u8_le (y.getD 0 0)
              refine At.draw (es := [6]) (pv := [(0, str y), (1, str y), (2, .int .u8 ((y.getD 0 0).toNat : Int)), (3, .int .i64 ((y.getD 0 0).toNat : Int)), (4, .int .i64 (1 + ((y.getD 0 0).toNat : Int))), (5, str (subl y (1 + ((y.getD 0 0).toNat)) y.length))]) tf_mixed (by kernel_rfl) (by kernel_rfl) (by kernel_rfl) ?_
              refine ⟨⟨.inr ⟨_, rfl, rfl, .inl ⟨rfl, Do.load tf_flat9 rfl (Cell.own 0 0 rfl rfl rfl)⟩⟩, .inr ⟨_, rfl, rfl, .inl ⟨rfl, Do.load tf_flat9 rfl (Cell.own 0 0 rfl rfl rfl)⟩⟩, .inr ⟨_, rfl, rfl, .inl ⟨rfl, Do.indexS (l := y) 0 rfl (by omega) Tryz.underlying9 rfl rfl⟩⟩, .inr ⟨_, rfl, rfl, .inl ⟨rfl, Do.convInt (z := ((y.getD 0 0).toNat : Int)) Tryz.underlying5 Tryz.underlying3 rfl (u8_i64 _)⟩⟩, .inr ⟨_, rfl, rfl, .inl ⟨rfl, Do.add (z := 1 + ((y.getD 0 0).toNat : Int)) rfl rfl (w64 (by omega) (by omega))⟩⟩, .inr ⟨_, rfl, rfl, .inl ⟨rfl, Do.sliceS (l := y) (1 + ((y.getD 0 0).toNat)) y.length (evBound_some rfl rfl) rfl (by omega) (by omega) Tryz.underlying9 rfl⟩⟩, trivial⟩, rfl, rfl, by kernel_rfl, _, rfl, rfl, rfl, _, Do.store (H' := [(bn, .cells #[str (subl y (1 + ((y.getD 0 0).toNat)) y.length)] 9 (0, 0))] :: (Hc3 ++ T)) 0 0 tf_sz9 rfl rfl rfl rfl rfl rfl rfl rfl rfl, ?_⟩
              rintro _ _ ⟨rfl, rfl⟩
              refine ⟨[], rfl, ?_⟩
              refine ⟨⟨.inl (by kernel_rfl), .inl (by kernel_rfl), .inl (by kernel_rfl), .inl (by kernel_rfl), .inl (by kernel_rfl), .inl (by kernel_rfl), trivial⟩, by kernel_rfl, ?_⟩
              refine At.mono (E' := [(0, .func (.yield lp) #[] #[]), (1, .pointer (some ⟨bn, 0, none⟩))]) ⟨rfl, rfl, trivial⟩ ?_
              refine At.inBlock ?_
              refine ihL1 (subl y (1 + ((y.getD 0 0).toNat)) y.length) f Hc3 (⟨by rw [subl_len (by omega)]; omega, hJ3 (by simpa using hc3), by rw [subl_len (by omega)]; omega⟩) (by rw [subl_len (by omega)]; omega) _ ?_
              exact ⟨rfl, rfl, trivial⟩
set_option maxHeartbeats 400000 in
theorem all_ok6 {w0 : World} {base : Nat} {H : List Seg} (n : List UInt8) :
    SCalls Tryz.prog 229 [str n] w0 base (H) (fun v H' => ∃ bn : Nat, v = .func (.func 230) #[] #[.pointer (some ⟨bn, 0, none⟩)] ∧ H' = [(bn, .cells #[str n] 9 (0, 0))] :: H) := by
  refine SCalls.of_walk (n := 4) Tryz.func229 rfl rfl rfl fun cs => ?_
  refine At.seq ?_
  refine At.region ?_
  refine AtL.box (cs := #[str n]) rfl (.inl rfl) rfl rfl ?_
  intro b1
  refine AtL.assign (.inl rfl) rfl rfl ?_
  refine AtL.done ?_
  refine At.seq ?_
  refine At.region ?_
  refine AtL.makeFunc (.inl rfl) rfl rfl rfl ?_
  refine AtL.assign (.inl rfl) rfl rfl ?_
  refine AtL.done ?_
  exact At.ret Tryz.func229 rfl rfl (⟨b1, rfl, rfl⟩)
set_option maxHeartbeats 400000 in
theorem labels_ok {w0 : World} {base : Nat} {H : List Seg} (n : List UInt8) (hn : n.length ≤ 65535) :
    SCalls Tryz.prog 227 [str n] w0 base (H) (fun v H' => ∃ (v0 : Value) (e : Int), v = .tuple #[v0, int e] ∧ H' = H) := by
  refine SCalls.of_walk (n := 21) Tryz.func227 rfl rfl rfl fun cs => ?_
  refine At.seq ?_
  refine At.region ?_
  refine AtL.alloc tf_zero109 (cs := #[.slice none 0 0]) rfl (.inl rfl) rfl ?_
  intro b1
  refine AtL.alloc tf_zero25 (cs := #[.int .i64 0]) rfl (.inl rfl) rfl ?_
  intro b2
  refine AtL.done ?_
  refine At.seq ?_
  refine At.region ?_
  refine AtL.alloc tf_zero109 (cs := #[.slice none 0 0]) rfl (.inl rfl) rfl ?_
  intro b3
  refine AtL.done ?_
  refine At.seq ?_
  refine At.seq ?_
  refine At.region ?_
  refine AtL.move (.inl rfl) rfl rfl ?_
  refine AtL.call tf_body229 (.inl rfl) rfl rfl (all_ok6 n) ?_
  rintro _ _ ⟨bn4, rfl, rfl⟩
  refine AtL.done ?_
  refine At.block ?_
  refine At.nil ?_
  refine At.pick (H' := [(bn4, .cells #[str n] 9 (0, 0))] :: [] :: [(b3, .cells #[.slice none 0 0] 109 (0, 0))] :: [(b1, .cells #[.slice none 0 0] 109 (0, 0))] :: [(b2, .cells #[.int .i64 0] 25 (0, 0))] :: H) [1, 0, 2, 4, 3] 5 rfl rfl ?_
  refine At.rangeF (R := (fun L lp rr v H' => ∃ (b : Bool) (y : List UInt8) (A : Option Addr) (C : Nat) (l : List (List UInt8)) (so : Seg) (L' : Loop) (e : Int), Own tyS 9 A C l so ∧ (b = true → L' = L) ∧ (b = false → L' = leftL L .ret) ∧ H' = [(bn4, .cells #[str y] 9 (0, 0))] :: [(lp, .loop L')] :: [(rr, .deferred (some []))] :: so :: [(b3, .cells #[.slice A l.length C] 109 (0, 0))] :: [(b1, .cells #[.slice none 0 0] 109 (0, 0))] :: [(b2, .cells #[.int .i64 e] 25 (0, 0))] :: H)) rfl tf_body230 rfl (fun lp => rfl) (fun L lp rr hL => ?_) (fun L lp rr v H1 hL hR => ?_)
  · skip
    refine SCalls.pick (H' := [(bn4, .cells #[str n] 9 (0, 0))] :: [(lp, .loop L)] :: [(rr, .deferred (some []))] :: [] :: [(b3, .cells #[.slice none 0 0] 109 (0, 0))] :: [(b1, .cells #[.slice none 0 0] 109 (0, 0))] :: [(b2, .cells #[.int .i64 0] 25 (0, 0))] :: H) [2, 0, 1, 3, 4, 5, 6] 7 rfl rfl ?_
    refine SCalls.mono (all1_ok (n := n) (T := H) (Hc := [[(lp, .loop L)], [(rr, .deferred (some []))], [], [(b3, .cells #[.slice none 0 0] 109 (0, 0))], [(b1, .cells #[.slice none 0 0] 109 (0, 0))], [(b2, .cells #[.int .i64 0] 25 (0, 0))]]) (J := (fun f Hc => ∃ (A : Option Addr) (C : Nat) (l : List (List UInt8)) (so : Seg), Own tyS 9 A C l so ∧ l.length + f ≤ n.length ∧ Hc = [[(lp, .loop L)], [(rr, .deferred (some []))], so, [(b3, .cells #[.slice A l.length C] 109 (0, 0))], [(b1, .cells #[.slice none 0 0] 109 (0, 0))], [(b2, .cells #[.int .i64 0] 25 (0, 0))]])) (K := (fun Hc => ∃ (A : Option Addr) (C : Nat) (l : List (List UInt8)) (so : Seg), Own tyS 9 A C l so ∧ Hc = [[(lp, .loop (leftL L .ret))], [(rr, .deferred (some []))], so, [(b3, .cells #[.slice A l.length C] 109 (0, 0))], [(b1, .cells #[.slice none 0 0] 109 (0, 0))], [(b2, .cells #[.int .i64 4] 25 (0, 0))]])) hn (fun u f Hc hul hJ T' => ?_) (fun f Hc hJ T' => ?_) ⟨none, 0, [], [], Own.nil tyS 9, by simp, rfl⟩) (fun v H' hp => ?_)
    · skip
      obtain ⟨A, C, l, so, o, hlf, rfl⟩ := hJ
      have hcapo := Own.cap_le o
      refine YCalls.walkL hL (i := 0) (j := 0) rfl rfl rfl rfl rfl (fun c cs => ?_)
      refine At.seq ?_
      refine At.region ?_
      refine AtL.assign (.inl rfl) rfl rfl ?_
      refine AtL.done ?_
      refine At.region ?_
      refine AtL.assign (.inl rfl) rfl rfl ?_
      refine AtL.done ?_
      refine At.beginL 0 0 hL rfl rfl rfl rfl ?_
      refine At.block ?_
      refine At.seq ?_
      refine At.seq ?_
      refine At.region ?_
      refine AtL.move (.inl rfl) rfl rfl ?_
      refine AtL.not (.inl rfl) rfl rfl ?_
      refine AtL.done ?_
      refine At.condF rfl ?_
      refine At.skip ?_
      refine At.region ?_
      refine AtL.load tf_flat109 (.inl rfl) rfl rfl (Cell.own 3 0 rfl rfl rfl) ?_
      refine AtL.move (.inl rfl) rfl rfl ?_
      refine AtL.buildSlice (cs := [str u]) Tryz.underlying109 tf_zero9 tf_sz9 rfl rfl (.inl rfl) rfl rfl rfl ?_
      intro b5
      refine AtL.own1 tyS (l := ([u] : List (List UInt8))) rfl rfl (by first | decide | simp) ?_
      intro s6 o7
      refine AtL.append (l := l) (news := [u]) 3 tf_el109 rfl o (o7.rd (i := 0) rfl) (by first | omega | (simp only [List.length_append, List.length_cons, List.length_nil]; omega) | (simp; done) | (simp; omega)) (.inl rfl) rfl rfl rfl ?_
      intro A8 C9 s10 o11
      refine AtL.store (H' := s6 :: [(lp, .loop (busyL L))] :: [(rr, .deferred (some []))] :: s10 :: [(b3, .cells #[.slice A8 (l ++ [u]).length C9] 109 (0, 0))] :: [(b1, .cells #[.slice none 0 0] 109 (0, 0))] :: [(b2, .cells #[.int .i64 0] 25 (0, 0))] :: T') 4 0 tf_sz109 (.inl rfl) rfl rfl rfl rfl rfl rfl rfl rfl rfl ?_
      refine AtL.done ?_
      refine At.inBlock ?_
      refine At.pick (H' := [(lp, .loop (busyL L))] :: [(rr, .deferred (some []))] :: s10 :: [(b3, .cells #[.slice A8 (l ++ [u]).length C9] 109 (0, 0))] :: [(b1, .cells #[.slice none 0 0] 109 (0, 0))] :: [(b2, .cells #[.int .i64 0] 25 (0, 0))] :: T') [1, 2, 3, 4, 5, 6] 7 rfl rfl ?_
      exact At.roundEndL 0 0 hL rfl rfl rfl (⟨true, [[(lp, .loop L)], [(rr, .deferred (some []))], s10, [(b3, .cells #[.slice A8 (l ++ [u]).length C9] 109 (0, 0))], [(b1, .cells #[.slice none 0 0] 109 (0, 0))], [(b2, .cells #[.int .i64 0] 25 (0, 0))]], rfl, rfl, fun _ => ⟨_, _, _, _, o11, by simp only [List.length_append, List.length_cons, List.length_nil]; omega, rfl⟩, fun h => (by cases h)⟩)
    · skip
      obtain ⟨A, C, l, so, o, hlf, rfl⟩ := hJ
      have hcapo := Own.cap_le o
      refine YCalls.walkL hL (i := 0) (j := 0) rfl rfl rfl rfl rfl (fun c cs => ?_)
      refine At.seq ?_
      refine At.region ?_
      refine AtL.assign (.inl rfl) rfl rfl ?_
      refine AtL.done ?_
      refine At.region ?_
      refine AtL.assign (.inl rfl) rfl rfl ?_
      refine AtL.done ?_
      refine At.beginL 0 0 hL rfl rfl rfl rfl ?_
      refine At.block ?_
      refine At.seq ?_
      refine At.seq ?_
      refine At.region ?_
      refine AtL.move (.inl rfl) rfl rfl ?_
      refine AtL.not (.inl rfl) rfl rfl ?_
      refine AtL.done ?_
      refine At.condT rfl ?_
      refine At.seq ?_
      refine At.region ?_
      refine AtL.store (H' := [(lp, .loop (busyL L))] :: [(rr, .deferred (some []))] :: so :: [(b3, .cells #[.slice A l.length C] 109 (0, 0))] :: [(b1, .cells #[.slice none 0 0] 109 (0, 0))] :: [(b2, .cells #[.int .i64 0] 25 (0, 0))] :: T') 4 0 tf_sz109 (.inl rfl) rfl rfl rfl rfl rfl rfl rfl rfl rfl ?_
      refine AtL.store (H' := [(lp, .loop (busyL L))] :: [(rr, .deferred (some []))] :: so :: [(b3, .cells #[.slice A l.length C] 109 (0, 0))] :: [(b1, .cells #[.slice none 0 0] 109 (0, 0))] :: [(b2, .cells #[.int .i64 4] 25 (0, 0))] :: T') 5 0 tf_sz25 (.inl rfl) rfl rfl rfl rfl rfl rfl rfl rfl rfl ?_
      refine AtL.done ?_
      exact At.roundRetL 0 0 rfl rfl rfl (⟨false, [[(lp, .loop (leftL L .ret))], [(rr, .deferred (some []))], so, [(b3, .cells #[.slice A l.length C] 109 (0, 0))], [(b1, .cells #[.slice none 0 0] 109 (0, 0))], [(b2, .cells #[.int .i64 4] 25 (0, 0))]], rfl, rfl, fun h => (by cases h), fun _ => ⟨_, _, _, _, o, rfl⟩⟩)
    · skip
      obtain ⟨b, f, y, Hc', h1, h2, rfl, rfl⟩ := hp
      cases b with
      | true => obtain ⟨A, C, l, so, o, _, rfl⟩ := h1 rfl; exact ⟨true, y, A, C, l, so, L, 0, o, fun _ => rfl, fun h => (by cases h), rfl⟩
      | false => obtain ⟨A, C, l, so, o, rfl⟩ := h2 rfl; exact ⟨false, y, A, C, l, so, leftL L .ret, 4, o, fun h => (by cases h), fun _ => rfl, rfl⟩
  · skip
    obtain ⟨b, y, A, C, l, so, L', e, o, h1, h2, rfl⟩ := hR
    cases b with
    | true =>
      obtain rfl := h1 rfl
      refine ⟨1, 0, _, _, _, rfl, rfl, loop_ready hL, rfl, ?_⟩
      rw [loop_dry hL]
      refine At.inBlock ?_
      refine At.seq ?_
      refine At.seq ?_
      refine At.region ?_
      refine AtL.move (.inl rfl) rfl rfl ?_
      refine AtL.lenS (l := n) Tryz.underlying9 (.inl rfl) rfl rfl ?_
      refine AtL.gtr (.inl rfl) rfl rfl rfl ?_
      refine AtL.done ?_
      refine At.cond rfl ?_ ?_
      · intro hc2
        have hc2 : 255 < (n.length : Int) := of_decide_eq_true hc2
        refine At.seq ?_
        refine At.region ?_
        refine AtL.store (H' := [(bn4, .cells #[str y] 9 (0, 0))] :: [(lp, .loop (overL L'))] :: [(rr, .deferred (some []))] :: so :: [(b3, .cells #[.slice A l.length C] 109 (0, 0))] :: [(b1, .cells #[.slice none 0 0] 109 (0, 0))] :: [(b2, .cells #[.int .i64 e] 25 (0, 0))] :: H) 5 0 tf_sz109 (.inl rfl) rfl rfl rfl rfl rfl rfl rfl rfl rfl ?_
        refine AtL.store (H' := [(bn4, .cells #[str y] 9 (0, 0))] :: [(lp, .loop (overL L'))] :: [(rr, .deferred (some []))] :: so :: [(b3, .cells #[.slice A l.length C] 109 (0, 0))] :: [(b1, .cells #[.slice none 0 0] 109 (0, 0))] :: [(b2, .cells #[.int .i64 3] 25 (0, 0))] :: H) 6 0 tf_sz25 (.inl rfl) rfl rfl rfl rfl rfl rfl rfl rfl rfl ?_
        refine AtL.done ?_
        refine At.retU rfl ?_
        refine Un.collected (i := 2) (j := 0) rfl rfl rfl rfl ?_
        exact Un.leftP (vs := [.slice none 0 0, .int .i64 3]) (H2 := H) [] 7 rfl rfl Tryz.func227 rfl ⟨⟨_, rfl, LoadsTo.flat tf_flat109 (Cell.own 5 0 rfl rfl rfl)⟩, ⟨_, rfl, LoadsTo.flat tf_flat25 (Cell.own 6 0 rfl rfl rfl)⟩, trivial⟩ (⟨_, _, rfl, rfl⟩)
      · intro hc2
        have hc2 : ¬ (255 < (n.length : Int)) := of_decide_eq_false hc2
        refine At.skip ?_
        refine At.seq ?_
        refine At.region ?_
        refine AtL.load tf_flat109 (.inl rfl) rfl rfl (Cell.own 4 0 rfl rfl rfl) ?_
        refine AtL.store (H' := [(bn4, .cells #[str y] 9 (0, 0))] :: [(lp, .loop (overL L'))] :: [(rr, .deferred (some []))] :: so :: [(b3, .cells #[.slice A l.length C] 109 (0, 0))] :: [(b1, .cells #[.slice A l.length C] 109 (0, 0))] :: [(b2, .cells #[.int .i64 e] 25 (0, 0))] :: H) 5 0 tf_sz109 (.inl rfl) rfl rfl rfl rfl rfl rfl rfl rfl rfl ?_
        refine AtL.store (H' := [(bn4, .cells #[str y] 9 (0, 0))] :: [(lp, .loop (overL L'))] :: [(rr, .deferred (some []))] :: so :: [(b3, .cells #[.slice A l.length C] 109 (0, 0))] :: [(b1, .cells #[.slice A l.length C] 109 (0, 0))] :: [(b2, .cells #[.int .i64 0] 25 (0, 0))] :: H) 6 0 tf_sz25 (.inl rfl) rfl rfl rfl rfl rfl rfl rfl rfl rfl ?_
        refine AtL.done ?_
        refine At.retU rfl ?_
        refine Un.collected (i := 2) (j := 0) rfl rfl rfl rfl ?_
        exact Un.leftP (vs := [.slice A l.length C, .int .i64 0]) (H2 := H) [] 7 rfl rfl Tryz.func227 rfl ⟨⟨_, rfl, LoadsTo.flat tf_flat109 (Cell.own 5 0 rfl rfl rfl)⟩, ⟨_, rfl, LoadsTo.flat tf_flat25 (Cell.own 6 0 rfl rfl rfl)⟩, trivial⟩ (⟨_, _, rfl, rfl⟩)
    | false =>
      obtain rfl := h2 rfl
      refine ⟨1, 0, _, _, _, rfl, rfl, loop_left, rfl, ?_⟩
      show At _ (.code .ret :: _) _ _ _
      refine At.retU rfl ?_
      refine Un.collected (i := 2) (j := 0) rfl rfl rfl rfl ?_
      exact Un.leftP (vs := [.slice none 0 0, .int .i64 e]) (H2 := H) [] 7 rfl rfl Tryz.func227 rfl ⟨⟨_, rfl, LoadsTo.flat tf_flat109 (Cell.own 5 0 rfl rfl rfl)⟩, ⟨_, rfl, LoadsTo.flat tf_flat25 (Cell.own 6 0 rfl rfl rfl)⟩, trivial⟩ (⟨_, _, rfl, rfl⟩)
set_option maxHeartbeats 400000 in
theorem ncheck_ok {w0 : World} {base : Nat} {H : List Seg} (n : List UInt8) (hn : n.length ≤ 65535) :
    SCalls Tryz.prog 221 [str n] w0 base (H) (fun v H' => ∃ e : Int, v = int e ∧ H' = H) := by
  refine SCalls.of_walk (n := 11) Tryz.func221 rfl rfl rfl fun cs => ?_
  refine At.seq ?_
  refine At.region ?_
  refine AtL.assign (.inl rfl) rfl rfl ?_
  refine AtL.done ?_
  refine At.seq ?_
  refine At.region ?_
  refine AtL.move (.inl rfl) rfl rfl ?_
  refine AtL.call tf_body227 (.inl rfl) rfl rfl (labels_ok n (by omega)) ?_
  rintro _ _ ⟨v1, e2, rfl, hHq⟩
  obtain rfl := hHq.symm
  refine AtL.move (.inl rfl) rfl rfl ?_
  refine AtL.extract (.inl rfl) rfl rfl rfl ?_
  refine AtL.extract (.inl rfl) rfl rfl rfl ?_
  refine AtL.assign (.inl rfl) rfl rfl ?_
  refine AtL.assign (.inl rfl) rfl rfl ?_
  refine AtL.done ?_
  refine At.seq ?_
  refine At.region ?_
  refine AtL.move (.inl rfl) rfl rfl ?_
  refine AtL.assign (.inl rfl) rfl rfl ?_
  refine AtL.done ?_
  exact At.ret Tryz.func221 rfl rfl (⟨_, rfl, rfl⟩)
end Go.Proofs.YtlkdmbpbjhjkfaaGreatDoor
namespace Go.Proofs.YtlkdmbpbjhjkfaaGreatDoor
set_option linter.unusedVariables false
set_option linter.unusedSimpArgs false
set_option maxRecDepth 100000
set_option maxHeartbeats 400000 in
theorem at1_ret {w0 : World} {base : Nat} {H : List Seg} {b : Nat} {x : Value} :
    DCalls Tryz.prog 222 [.pointer (some ⟨b, 0, none⟩)] w0 base ([(b, .cells #[x] 25 (0, 0))] :: H) .returning (fun m' H' => m' = .returning ∧ H' = [(b, .cells #[x] 25 (0, 0))] :: H) := by
  refine DCalls.of_walk (n := 14) Tryz.func222 rfl rfl rfl fun fr cs => ?_
  refine At.seq ?_
  refine At.region ?_
  refine AtL.recoverNone rfl ?_
  refine AtL.assign (.inl rfl) rfl rfl ?_
  refine AtL.done ?_
  refine At.seq ?_
  refine At.seq ?_
  refine At.region ?_
  refine AtL.move (.inl rfl) rfl rfl ?_
  refine AtL.typeAssert (u := .tuple #[.nilIface, .bool false]) (.inl rfl) rfl rfl (fun w => by kernel_rfl) ?_
  refine AtL.move (.inl rfl) rfl rfl ?_
  refine AtL.extract (.inl rfl) rfl rfl rfl ?_
  refine AtL.extract (.inl rfl) rfl rfl rfl ?_
  refine AtL.assign (.inl rfl) rfl rfl ?_
  refine AtL.assign (.inl rfl) rfl rfl ?_
  refine AtL.done ?_
  refine At.seq ?_
  refine At.region ?_
  refine AtL.move (.inl rfl) rfl rfl ?_
  refine AtL.done ?_
  refine At.condF rfl ?_
  refine At.skip ?_
  refine At.seq ?_
  refine At.region ?_
  refine AtL.move (.inl rfl) rfl rfl ?_
  refine AtL.neNilIface Tryz.underlying20 (.inl rfl) rfl rfl ?_
  refine AtL.done ?_
  refine At.condF rfl ?_
  refine At.skip ?_
  refine At.endU rfl ?_
  exact Un.leftD (vs := []) Tryz.func222 rfl trivial (⟨rfl, rfl⟩)
set_option maxHeartbeats 400000 in
theorem at1_bad {w0 : World} {base : Nat} {H : List Seg} {b : Nat} {x : Value} (i m : Int) (s : Bool) :
    DCalls Tryz.prog 222 [.pointer (some ⟨b, 0, none⟩)] w0 base ([(b, .cells #[x] 25 (0, 0))] :: H) (.panicking [{ v := .iface Tryz.prog.rt.boundsError (.agg #[.int .i64 i, .int .i64 m, .bool s, .int .u8 0]), recovered := false }]) (fun m' H' => m' = .returning ∧ H' = [(b, .cells #[int 4] 25 (0, 0))] :: H) := by
  refine DCalls.of_walk (n := 14) Tryz.func222 rfl rfl rfl fun fr cs => ?_
  refine At.seq ?_
  refine At.region ?_
  refine AtL.recoverSome rfl ?_
  refine AtL.assign (.inl rfl) rfl rfl ?_
  refine AtL.done ?_
  refine At.seq ?_
  refine At.seq ?_
  refine At.region ?_
  refine AtL.move (.inl rfl) rfl rfl ?_
  refine AtL.typeAssert (u := .tuple #[.iface Tryz.prog.rt.boundsError (.agg #[.int .i64 i, .int .i64 m, .bool s, .int .u8 0]), .bool true]) (.inl rfl) rfl rfl (fun w => by kernel_rfl) ?_
  refine AtL.move (.inl rfl) rfl rfl ?_
  refine AtL.extract (.inl rfl) rfl rfl rfl ?_
  refine AtL.extract (.inl rfl) rfl rfl rfl ?_
  refine AtL.assign (.inl rfl) rfl rfl ?_
  refine AtL.assign (.inl rfl) rfl rfl ?_
  refine AtL.done ?_
  refine At.seq ?_
  refine At.region ?_
  refine AtL.move (.inl rfl) rfl rfl ?_
  refine AtL.done ?_
  refine At.condT rfl ?_
  refine At.seq ?_
  refine At.region ?_
  refine AtL.store (H' := [(b, .cells #[.int .i64 4] 25 (0, 0))] :: H) 0 0 tf_sz25 (.inl rfl) rfl rfl rfl rfl rfl rfl rfl rfl rfl ?_
  refine AtL.done ?_
  refine At.retU rfl ?_
  exact Un.leftD (vs := []) Tryz.func222 rfl trivial (⟨rfl, rfl⟩)
set_option maxHeartbeats 400000 in
theorem at_any {w0 : World} {base : Nat} {H : List Seg} {A : Option Addr} {C : Nat} {l : List UInt8} (h : Rd tyB w0 base H A C l) (i : Int) :
    SCalls Tryz.prog 207 [.slice A l.length C, .int .i64 i] w0 base (H) (fun v H' => ∃ (c : UInt8) (e : Int), v = .tuple #[.int .u8 c.toNat, int e] ∧ H' = H) := by
  refine SCalls.of_walk (n := 11) Tryz.func207 rfl rfl rfl fun cs => ?_
  refine At.seq ?_
  refine At.region ?_
  refine AtL.assign (.inl rfl) rfl rfl ?_
  refine AtL.alloc tf_zero25 (cs := #[.int .i64 0]) rfl (.inl rfl) rfl ?_
  intro b1
  refine AtL.done ?_
  refine At.seq ?_
  refine At.region ?_
  refine AtL.makeFunc (.inl rfl) rfl rfl rfl ?_
  refine AtL.defer rfl (.inl rfl) rfl rfl rfl ?_
  refine AtL.done ?_
  refine At.seq ?_
  refine At.region ?_
  refine AtL.move (.inl rfl) rfl rfl ?_
  refine AtL.move (.inl rfl) rfl rfl ?_
  rcases Classical.em (0 ≤ i ∧ i < (l.length : Int)) with hin | hin
  · skip
    obtain ⟨j, hj⟩ : ∃ j : Nat, i = (j : Int) := ⟨(i).toNat, by omega⟩
    refine AtL.indexL j (Rd.skip 1 h) Tryz.underlying22 tf_sz5 (.inl rfl) rfl rfl rfl hj (by omega) ?_
    refine AtL.load (v := .int .u8 ((l.getD j 0).toNat : Int)) tf_flat5 (.inl rfl) rfl rfl (Rd.cell0 (Rd.skip 1 h) (getD_some 0 (by omega)) rfl) ?_
    refine AtL.assign (.inl rfl) rfl rfl ?_
    refine AtL.store (H' := [(b1, .cells #[.int .i64 0] 25 (0, 0))] :: H) 0 0 tf_sz25 (.inl rfl) rfl rfl rfl rfl rfl rfl rfl rfl rfl ?_
    refine AtL.done ?_
    refine At.retU rfl ?_
    refine Un.defer tf_body222 rfl rfl at1_ret ?_
    rintro _ _ ⟨rfl, rfl⟩
    exact Un.leftP (vs := [.int .u8 ((l.getD j 0).toNat : Int), .int .i64 0]) (H2 := H) [] 1 rfl rfl Tryz.func207 rfl ⟨rfl, ⟨_, rfl, LoadsTo.flat tf_flat25 (Cell.own 0 0 rfl rfl rfl)⟩, trivial⟩ (⟨_, _, rfl, rfl⟩)
  · skip
    refine AtL.indexPanics Tryz.underlying22 (.inl rfl) rfl rfl (by omega) ?_
    intro m s
    refine Un.defer tf_body222 rfl rfl (at1_bad _ _ _) ?_
    rintro _ _ ⟨rfl, rfl⟩
    exact Un.leftP (vs := [.int .u8 0, .int .i64 4]) (H2 := H) [] 1 rfl rfl Tryz.func207 rfl ⟨rfl, ⟨_, rfl, LoadsTo.flat tf_flat25 (Cell.own 0 0 rfl rfl rfl)⟩, trivial⟩ (⟨0, _, rfl, rfl⟩)
set_option maxHeartbeats 400000 in
theorem get4_any {w0 : World} {base : Nat} {H : List Seg} {A : Option Addr} {C : Nat} {l : List UInt8} (h : Rd tyB w0 base H A C l) (i : Int) (hi : -1000 ≤ i) (hi2 : i ≤ 4611686018427387904) (hl : l.length ≤ 4611686018427387904) :
    SCalls Tryz.prog 181 [.slice A l.length C, .int .i64 i, .int .i64 4] w0 base (H) (fun v H' => ∃ a b c d : Int, v = .tuple #[int a, int b, .agg #[int c, int d]] ∧ H' = H) := by
  refine SCalls.of_walk (n := 51) Tryz.func181 rfl rfl rfl fun cs => ?_
  refine At.seq ?_
  refine At.region ?_
  refine AtL.assign (.inl rfl) rfl rfl ?_
  refine AtL.assign (.inl rfl) rfl rfl ?_
  refine AtL.alloc tf_zero133 (cs := #[.int .i64 0, .int .i64 0]) rfl (.inl rfl) rfl ?_
  intro b1
  refine AtL.done ?_
  refine At.seq ?_
  refine At.seq ?_
  refine At.region ?_
  refine AtL.move (.inl rfl) rfl rfl ?_
  refine AtL.lss (.inl rfl) rfl rfl rfl ?_
  refine AtL.move (.inl rfl) rfl rfl ?_
  refine AtL.join 5 (E' := [(20, .bool (decide (((i : Int) < 0) ∨ ((l.length : Int) < i)))), (0, .slice A l.length C), (1, .int .i64 i), (2, .int .i64 4), (8, .pointer (some ⟨b1, 0, none⟩))]) (H' := [(b1, .cells #[.int .i64 0, .int .i64 0] 133 (0, 0))] :: H) (fun J => ?_) ?_
  · refine AtL.split (t := 15) rfl ?_ ?_
    · intro hs15
      have hs15 : (i : Int) < 0 := of_decide_eq_true hs15
      refine AtL.skipped rfl rfl rfl rfl rfl rfl ?_
      refine AtL.skipped rfl rfl rfl rfl rfl rfl ?_
      refine AtL.skipped rfl rfl rfl rfl rfl rfl ?_
      refine AtL.skipped rfl rfl rfl rfl rfl rfl ?_
      refine AtL.pickT (.inl rfl) rfl rfl rfl ?_
      exact J _ (by exact ⟨(boolIs (by clear J; first | (simp [hs15]; done) | (simp_all; done) | grind)), rfl, rfl, rfl, rfl, trivial⟩)
    · intro hs15
      have hs15 : ¬ ((i : Int) < 0) := of_decide_eq_false hs15
      refine AtL.move (.inr ⟨_, _, _, rfl, rfl, rfl, rfl⟩) rfl rfl ?_
      refine AtL.move (.inr ⟨_, _, _, rfl, rfl, rfl, rfl⟩) rfl rfl ?_
      refine AtL.lenL Tryz.underlying22 (.inr ⟨_, _, _, rfl, rfl, rfl, rfl⟩) rfl rfl ?_
      refine AtL.gtr (.inr ⟨_, _, _, rfl, rfl, rfl, rfl⟩) rfl rfl rfl ?_
      refine AtL.pickF (.inl rfl) rfl rfl rfl ?_
      exact J _ (by exact ⟨(boolIs (by clear J; first | (simp [hs15]; done) | (simp_all; done) | grind)), rfl, rfl, rfl, rfl, trivial⟩)
  · skip
    refine AtL.done ?_
    refine At.cond rfl ?_ ?_
    · intro hc1
      have hc1 : ((i : Int) < 0) ∨ ((l.length : Int) < i) := of_decide_eq_true hc1
      refine At.seq ?_
      refine At.region ?_
      refine AtL.build (cs := [.int .i64 5, .int .i64 0]) tf_lay133 (.inl rfl) rfl rfl rfl ?_
      refine AtL.assign (.inl rfl) rfl rfl ?_
      refine AtL.assign (.inl rfl) rfl rfl ?_
      refine AtL.store (H' := [(b1, .cells #[.int .i64 5, .int .i64 0] 133 (0, 0))] :: H) 0 0 tf_sz133 (.inl rfl) rfl rfl rfl rfl rfl rfl rfl rfl rfl ?_
      refine AtL.done ?_
      exact At.retMP (vs := [.int .i64 0, .int .i64 0, .agg #[.int .i64 5, .int .i64 0]]) (H2 := H) [] 1 rfl rfl Tryz.func181 rfl ⟨rfl, rfl, ⟨_, rfl, LoadsTo.agg (cs := [.int .i64 5, .int .i64 0]) tf_agg133 rfl (cellsOwn 0 0 0 rfl rfl rfl)⟩, trivial⟩ (⟨_, _, _, _, rfl, rfl⟩)
    · intro hc1
      have hc1 : ¬ (((i : Int) < 0) ∨ ((l.length : Int) < i)) := of_decide_eq_false hc1
      refine At.skip ?_
      refine At.seq ?_
      refine At.region ?_
      refine AtL.assign (.inl rfl) rfl rfl ?_
      refine AtL.done ?_
      refine At.seq ?_
      refine At.seq ?_
      refine At.region ?_
      refine AtL.move (.inl rfl) rfl rfl ?_
      refine AtL.move (.inl rfl) rfl rfl ?_
      refine AtL.done ?_
      refine At.block ?_
      refine At.unroll ?_
      refine At.seq ?_
      refine At.region ?_
      refine AtL.lss (.inl rfl) rfl rfl rfl ?_
      refine AtL.done ?_
      refine At.seq ?_
      refine At.condT rfl ?_
      refine At.skip ?_
      refine At.seq ?_
      refine At.block ?_
      refine At.seq ?_
      refine At.region ?_
      refine AtL.move (.inl rfl) rfl rfl ?_
      refine AtL.assign (.inl rfl) rfl rfl ?_
      refine AtL.done ?_
      refine At.seq ?_
      refine At.region ?_
      refine AtL.move (.inl rfl) rfl rfl ?_
      refine AtL.move (.inl rfl) rfl rfl ?_
      refine AtL.move (.inl rfl) rfl rfl ?_
      refine AtL.add (z := i + 0) (.inl rfl) rfl rfl rfl (w64 (by omega) (by omega)) ?_
      refine AtL.call tf_body207 (.inl rfl) rfl rfl (at_any (l := l) (Rd.skip 1 h) (i + 0)) ?_
      rintro _ _ ⟨c2, e3, rfl, rfl⟩
      refine AtL.move (.inl rfl) rfl rfl ?_
      refine AtL.extract (.inl rfl) rfl rfl rfl ?_
      refine AtL.extract (.inl rfl) rfl rfl rfl ?_
      refine AtL.assign (.inl rfl) rfl rfl ?_
      refine AtL.assign (.inl rfl) rfl rfl ?_
      refine AtL.done ?_
      refine At.seq ?_
      refine At.seq ?_
      refine At.region ?_
      refine AtL.move (.inl rfl) rfl rfl ?_
      refine AtL.nei (.inl rfl) rfl rfl rfl ?_
      refine AtL.done ?_
      refine At.cond rfl ?_ ?_
      · intro hc3
        have hc3 : ¬ ((e3 : Int) = 0) := of_decide_eq_false (bnot_true hc3)
        refine At.seq ?_
        refine At.region ?_
        refine AtL.move (.inl rfl) rfl rfl ?_
        refine AtL.move (.inl rfl) rfl rfl ?_
        refine AtL.lenL Tryz.underlying22 (.inl rfl) rfl rfl ?_
        refine AtL.build (cs := [.int .i64 e3, .int .i64 (l.length : Int)]) tf_lay133 (.inl rfl) rfl rfl rfl ?_
        refine AtL.assign (.inl rfl) rfl rfl ?_
        refine AtL.assign (.inl rfl) rfl rfl ?_
        refine AtL.store (H' := [(b1, .cells #[.int .i64 e3, .int .i64 (l.length : Int)] 133 (0, 0))] :: H) 0 0 tf_sz133 (.inl rfl) rfl rfl rfl rfl rfl rfl rfl rfl rfl ?_
        refine AtL.done ?_
        exact At.retMP (vs := [.int .i64 0, .int .i64 0, .agg #[.int .i64 e3, .int .i64 (l.length : Int)]]) (H2 := H) [] 1 rfl rfl Tryz.func181 rfl ⟨rfl, rfl, ⟨_, rfl, LoadsTo.agg (cs := [.int .i64 e3, .int .i64 (l.length : Int)]) tf_agg133 rfl (cellsOwn 0 0 0 rfl rfl rfl)⟩, trivial⟩ (⟨_, _, _, _, rfl, rfl⟩)
      · intro hc3
        have hc3 : (e3 : Int) = 0 := of_decide_eq_true (bnot_false hc3)
        refine At.skip ?_
        refine At.region ?_
        refine AtL.move (.inl rfl) rfl rfl ?_
        obtain ⟨z4, hz4⟩ : ∃ z : Int, IntKind.i64.wrap (0 * 2 ^ (min ((8 : Int).toNat) (IntKind.i64).bits)) = z := ⟨_, rfl⟩
        refine AtL.shl (z := z4) (.inl rfl) rfl rfl rfl (by omega) hz4 ?_
        refine AtL.move (.inl rfl) rfl rfl ?_
        have hB5 := u8_le (c2)
        refine AtL.convInt (z := (c2.toNat : Int)) Tryz.underlying5 Tryz.underlying3 (.inl rfl) rfl rfl (u8_i64 _) ?_
        obtain ⟨z6, hz6⟩ : ∃ z : Int, IntKind.i64.wrap ((BitVec.ofInt (IntKind.i64).bits z4 ||| BitVec.ofInt (IntKind.i64).bits (c2.toNat : Int)).toNat : Int) = z := ⟨_, rfl⟩
        refine AtL.bor (z := z6) (.inl rfl) rfl rfl rfl hz6 ?_
        refine AtL.assign (.inl rfl) rfl rfl ?_
        refine AtL.done ?_
        refine At.inBlock ?_
        refine At.region ?_
        refine AtL.add (z := 1) (.inl rfl) rfl rfl rfl (by decide) ?_
        refine AtL.move (.inl rfl) rfl rfl ?_
        refine AtL.done ?_
        refine At.again ?_
        refine At.seq ?_
        refine At.region ?_
        refine AtL.lss (.inl rfl) rfl rfl rfl ?_
        refine AtL.done ?_
        refine At.seq ?_
        refine At.condT rfl ?_
        refine At.skip ?_
        refine At.seq ?_
        refine At.block ?_
        refine At.seq ?_
        refine At.region ?_
        refine AtL.move (.inl rfl) rfl rfl ?_
        refine AtL.assign (.inl rfl) rfl rfl ?_
        refine AtL.done ?_
        refine At.seq ?_
        refine At.region ?_
        refine AtL.move (.inl rfl) rfl rfl ?_
        refine AtL.move (.inl rfl) rfl rfl ?_
        refine AtL.move (.inl rfl) rfl rfl ?_
        refine AtL.add (z := i + 1) (.inl rfl) rfl rfl rfl (w64 (by omega) (by omega)) ?_
        refine AtL.call tf_body207 (.inl rfl) rfl rfl (at_any (l := l) (Rd.skip 1 h) (i + 1)) ?_
        rintro _ _ ⟨c7, e8, rfl, rfl⟩
        refine AtL.move (.inl rfl) rfl rfl ?_
        refine AtL.extract (.inl rfl) rfl rfl rfl ?_
        refine AtL.extract (.inl rfl) rfl rfl rfl ?_
        refine AtL.assign (.inl rfl) rfl rfl ?_
        refine AtL.assign (.inl rfl) rfl rfl ?_
        refine AtL.done ?_
        refine At.seq ?_
        refine At.seq ?_
        refine At.region ?_
        refine AtL.move (.inl rfl) rfl rfl ?_
        refine AtL.nei (.inl rfl) rfl rfl rfl ?_
        refine AtL.done ?_
        refine At.cond rfl ?_ ?_
        · intro hc3
          have hc3 : ¬ ((e8 : Int) = 0) := of_decide_eq_false (bnot_true hc3)
          refine At.seq ?_
          refine At.region ?_
          refine AtL.move (.inl rfl) rfl rfl ?_
          refine AtL.move (.inl rfl) rfl rfl ?_
          refine AtL.lenL Tryz.underlying22 (.inl rfl) rfl rfl ?_
          refine AtL.build (cs := [.int .i64 e8, .int .i64 (l.length : Int)]) tf_lay133 (.inl rfl) rfl rfl rfl ?_
          refine AtL.assign (.inl rfl) rfl rfl ?_
          refine AtL.assign (.inl rfl) rfl rfl ?_
          refine AtL.store (H' := [(b1, .cells #[.int .i64 e8, .int .i64 (l.length : Int)] 133 (0, 0))] :: H) 0 0 tf_sz133 (.inl rfl) rfl rfl rfl rfl rfl rfl rfl rfl rfl ?_
          refine AtL.done ?_
          exact At.retMP (vs := [.int .i64 0, .int .i64 0, .agg #[.int .i64 e8, .int .i64 (l.length : Int)]]) (H2 := H) [] 1 rfl rfl Tryz.func181 rfl ⟨rfl, rfl, ⟨_, rfl, LoadsTo.agg (cs := [.int .i64 e8, .int .i64 (l.length : Int)]) tf_agg133 rfl (cellsOwn 0 0 0 rfl rfl rfl)⟩, trivial⟩ (⟨_, _, _, _, rfl, rfl⟩)
        · intro hc3
          have hc3 : (e8 : Int) = 0 := of_decide_eq_true (bnot_false hc3)
          refine At.skip ?_
          refine At.region ?_
          refine AtL.move (.inl rfl) rfl rfl ?_
          obtain ⟨z9, hz9⟩ : ∃ z : Int, IntKind.i64.wrap (z6 * 2 ^ (min ((8 : Int).toNat) (IntKind.i64).bits)) = z := ⟨_, rfl⟩
          refine AtL.shl (z := z9) (.inl rfl) rfl rfl rfl (by omega) hz9 ?_
          refine AtL.move (.inl rfl) rfl rfl ?_
          have hB10 := u8_le (c7)
          refine AtL.convInt (z := (c7.toNat : Int)) Tryz.underlying5 Tryz.underlying3 (.inl rfl) rfl rfl (u8_i64 _) ?_
          obtain ⟨z11, hz11⟩ : ∃ z : Int, IntKind.i64.wrap ((BitVec.ofInt (IntKind.i64).bits z9 ||| BitVec.ofInt (IntKind.i64).bits (c7.toNat : Int)).toNat : Int) = z := ⟨_, rfl⟩
          refine AtL.bor (z := z11) (.inl rfl) rfl rfl rfl hz11 ?_
          refine AtL.assign (.inl rfl) rfl rfl ?_
          refine AtL.done ?_
          refine At.inBlock ?_
          refine At.region ?_
          refine AtL.add (z := 2) (.inl rfl) rfl rfl rfl (by decide) ?_
          refine AtL.move (.inl rfl) rfl rfl ?_
          refine AtL.done ?_
          refine At.again ?_
          refine At.seq ?_
          refine At.region ?_
          refine AtL.lss (.inl rfl) rfl rfl rfl ?_
          refine AtL.done ?_
          refine At.seq ?_
          refine At.condT rfl ?_
          refine At.skip ?_
          refine At.seq ?_
          refine At.block ?_
          refine At.seq ?_
          refine At.region ?_
          refine AtL.move (.inl rfl) rfl rfl ?_
          refine AtL.assign (.inl rfl) rfl rfl ?_
          refine AtL.done ?_
          refine At.seq ?_
          refine At.region ?_
          refine AtL.move (.inl rfl) rfl rfl ?_
          refine AtL.move (.inl rfl) rfl rfl ?_
          refine AtL.move (.inl rfl) rfl rfl ?_
          refine AtL.add (z := i + 2) (.inl rfl) rfl rfl rfl (w64 (by omega) (by omega)) ?_
          refine AtL.call tf_body207 (.inl rfl) rfl rfl (at_any (l := l) (Rd.skip 1 h) (i + 2)) ?_
          rintro _ _ ⟨c12, e13, rfl, rfl⟩
          refine AtL.move (.inl rfl) rfl rfl ?_
          refine AtL.extract (.inl rfl) rfl rfl rfl ?_
          refine AtL.extract (.inl rfl) rfl rfl rfl ?_
          refine AtL.assign (.inl rfl) rfl rfl ?_
          refine AtL.assign (.inl rfl) rfl rfl ?_
          refine AtL.done ?_
          refine At.seq ?_
          refine At.seq ?_
          refine At.region ?_
          refine AtL.move (.inl rfl) rfl rfl ?_
          refine AtL.nei (.inl rfl) rfl rfl rfl ?_
          refine AtL.done ?_
          refine At.cond rfl ?_ ?_
          · intro hc3
            have hc3 : ¬ ((e13 : Int) = 0) := of_decide_eq_false (bnot_true hc3)
            refine At.seq ?_
            refine At.region ?_
            refine AtL.move (.inl rfl) rfl rfl ?_
            refine AtL.move (.inl rfl) rfl rfl ?_
            refine AtL.lenL Tryz.underlying22 (.inl rfl) rfl rfl ?_
            refine AtL.build (cs := [.int .i64 e13, .int .i64 (l.length : Int)]) tf_lay133 (.inl rfl) rfl rfl rfl ?_
            refine AtL.assign (.inl rfl) rfl rfl ?_
            refine AtL.assign (.inl rfl) rfl rfl ?_
            refine AtL.store (H' := [(b1, .cells #[.int .i64 e13, .int .i64 (l.length : Int)] 133 (0, 0))] :: H) 0 0 tf_sz133 (.inl rfl) rfl rfl rfl rfl rfl rfl rfl rfl rfl ?_
            refine AtL.done ?_
            exact At.retMP (vs := [.int .i64 0, .int .i64 0, .agg #[.int .i64 e13, .int .i64 (l.length : Int)]]) (H2 := H) [] 1 rfl rfl Tryz.func181 rfl ⟨rfl, rfl, ⟨_, rfl, LoadsTo.agg (cs := [.int .i64 e13, .int .i64 (l.length : Int)]) tf_agg133 rfl (cellsOwn 0 0 0 rfl rfl rfl)⟩, trivial⟩ (⟨_, _, _, _, rfl, rfl⟩)
          · intro hc3
            have hc3 : (e13 : Int) = 0 := of_decide_eq_true (bnot_false hc3)
            refine At.skip ?_
            refine At.region ?_
            refine AtL.move (.inl rfl) rfl rfl ?_
            obtain ⟨z14, hz14⟩ : ∃ z : Int, IntKind.i64.wrap (z11 * 2 ^ (min ((8 : Int).toNat) (IntKind.i64).bits)) = z := ⟨_, rfl⟩
            refine AtL.shl (z := z14) (.inl rfl) rfl rfl rfl (by omega) hz14 ?_
            refine AtL.move (.inl rfl) rfl rfl ?_
            have hB15 := u8_le (c12)
            refine AtL.convInt (z := (c12.toNat : Int)) Tryz.underlying5 Tryz.underlying3 (.inl rfl) rfl rfl (u8_i64 _) ?_
            obtain ⟨z16, hz16⟩ : ∃ z : Int, IntKind.i64.wrap ((BitVec.ofInt (IntKind.i64).bits z14 ||| BitVec.ofInt (IntKind.i64).bits (c12.toNat : Int)).toNat : Int) = z := ⟨_, rfl⟩
            refine AtL.bor (z := z16) (.inl rfl) rfl rfl rfl hz16 ?_
            refine AtL.assign (.inl rfl) rfl rfl ?_
            refine AtL.done ?_
            refine At.inBlock ?_
            refine At.region ?_
            refine AtL.add (z := 3) (.inl rfl) rfl rfl rfl (by decide) ?_
            refine AtL.move (.inl rfl) rfl rfl ?_
            refine AtL.done ?_
            refine At.again ?_
            refine At.seq ?_
            refine At.region ?_
            refine AtL.lss (.inl rfl) rfl rfl rfl ?_
            refine AtL.done ?_
            refine At.seq ?_
            refine At.condT rfl ?_
            refine At.skip ?_
            refine At.seq ?_
            refine At.block ?_
            refine At.seq ?_
            refine At.region ?_
            refine AtL.move (.inl rfl) rfl rfl ?_
            refine AtL.assign (.inl rfl) rfl rfl ?_
            refine AtL.done ?_
            refine At.seq ?_
            refine At.region ?_
            refine AtL.move (.inl rfl) rfl rfl ?_
            refine AtL.move (.inl rfl) rfl rfl ?_
            refine AtL.move (.inl rfl) rfl rfl ?_
            refine AtL.add (z := i + 3) (.inl rfl) rfl rfl rfl (w64 (by omega) (by omega)) ?_
            refine AtL.call tf_body207 (.inl rfl) rfl rfl (at_any (l := l) (Rd.skip 1 h) (i + 3)) ?_
            rintro _ _ ⟨c17, e18, rfl, rfl⟩
            refine AtL.move (.inl rfl) rfl rfl ?_
            refine AtL.extract (.inl rfl) rfl rfl rfl ?_
            refine AtL.extract (.inl rfl) rfl rfl rfl ?_
            refine AtL.assign (.inl rfl) rfl rfl ?_
            refine AtL.assign (.inl rfl) rfl rfl ?_
            refine AtL.done ?_
            refine At.seq ?_
            refine At.seq ?_
            refine At.region ?_
            refine AtL.move (.inl rfl) rfl rfl ?_
            refine AtL.nei (.inl rfl) rfl rfl rfl ?_
            refine AtL.done ?_
            refine At.cond rfl ?_ ?_
            · intro hc3
              have hc3 : ¬ ((e18 : Int) = 0) := of_decide_eq_false (bnot_true hc3)
              refine At.seq ?_
              refine At.region ?_
              refine AtL.move (.inl rfl) rfl rfl ?_
              refine AtL.move (.inl rfl) rfl rfl ?_
              refine AtL.lenL Tryz.underlying22 (.inl rfl) rfl rfl ?_
              refine AtL.build (cs := [.int .i64 e18, .int .i64 (l.length : Int)]) tf_lay133 (.inl rfl) rfl rfl rfl ?_
              refine AtL.assign (.inl rfl) rfl rfl ?_
              refine AtL.assign (.inl rfl) rfl rfl ?_
              refine AtL.store (H' := [(b1, .cells #[.int .i64 e18, .int .i64 (l.length : Int)] 133 (0, 0))] :: H) 0 0 tf_sz133 (.inl rfl) rfl rfl rfl rfl rfl rfl rfl rfl rfl ?_
              refine AtL.done ?_
              exact At.retMP (vs := [.int .i64 0, .int .i64 0, .agg #[.int .i64 e18, .int .i64 (l.length : Int)]]) (H2 := H) [] 1 rfl rfl Tryz.func181 rfl ⟨rfl, rfl, ⟨_, rfl, LoadsTo.agg (cs := [.int .i64 e18, .int .i64 (l.length : Int)]) tf_agg133 rfl (cellsOwn 0 0 0 rfl rfl rfl)⟩, trivial⟩ (⟨_, _, _, _, rfl, rfl⟩)
            · intro hc3
              have hc3 : (e18 : Int) = 0 := of_decide_eq_true (bnot_false hc3)
              refine At.skip ?_
              refine At.region ?_
              refine AtL.move (.inl rfl) rfl rfl ?_
              obtain ⟨z19, hz19⟩ : ∃ z : Int, IntKind.i64.wrap (z16 * 2 ^ (min ((8 : Int).toNat) (IntKind.i64).bits)) = z := ⟨_, rfl⟩
              refine AtL.shl (z := z19) (.inl rfl) rfl rfl rfl (by omega) hz19 ?_
              refine AtL.move (.inl rfl) rfl rfl ?_
              have hB20 := u8_le (c17)
              refine AtL.convInt (z := (c17.toNat : Int)) Tryz.underlying5 Tryz.underlying3 (.inl rfl) rfl rfl (u8_i64 _) ?_
              obtain ⟨z21, hz21⟩ : ∃ z : Int, IntKind.i64.wrap ((BitVec.ofInt (IntKind.i64).bits z19 ||| BitVec.ofInt (IntKind.i64).bits (c17.toNat : Int)).toNat : Int) = z := ⟨_, rfl⟩
              refine AtL.bor (z := z21) (.inl rfl) rfl rfl rfl hz21 ?_
              refine AtL.assign (.inl rfl) rfl rfl ?_
              refine AtL.done ?_
              refine At.inBlock ?_
              refine At.region ?_
              refine AtL.add (z := 4) (.inl rfl) rfl rfl rfl (by decide) ?_
              refine AtL.move (.inl rfl) rfl rfl ?_
              refine AtL.done ?_
              refine At.again ?_
              refine At.seq ?_
              refine At.region ?_
              refine AtL.lss (.inl rfl) rfl rfl rfl ?_
              refine AtL.done ?_
              refine At.seq ?_
              refine At.condF rfl ?_
              refine At.exit rfl ?_
              refine At.seq ?_
              refine At.region ?_
              refine AtL.move (.inl rfl) rfl rfl ?_
              refine AtL.move (.inl rfl) rfl rfl ?_
              refine AtL.move (.inl rfl) rfl rfl ?_
              refine AtL.add (z := i + 4) (.inl rfl) rfl rfl rfl (w64 (by omega) (by omega)) ?_
              refine AtL.build (cs := [.int .i64 0, .int .i64 0]) tf_lay133 (.inl rfl) rfl rfl rfl ?_
              refine AtL.assign (.inl rfl) rfl rfl ?_
              refine AtL.assign (.inl rfl) rfl rfl ?_
              refine AtL.store (H' := [(b1, .cells #[.int .i64 0, .int .i64 0] 133 (0, 0))] :: H) 0 0 tf_sz133 (.inl rfl) rfl rfl rfl rfl rfl rfl rfl rfl rfl ?_
              refine AtL.done ?_
              exact At.retMP (vs := [.int .i64 z21, .int .i64 (i + 4), .agg #[.int .i64 0, .int .i64 0]]) (H2 := H) [] 1 rfl rfl Tryz.func181 rfl ⟨rfl, rfl, ⟨_, rfl, LoadsTo.agg (cs := [.int .i64 0, .int .i64 0]) tf_agg133 rfl (cellsOwn 0 0 0 rfl rfl rfl)⟩, trivial⟩ (⟨_, _, _, _, rfl, rfl⟩)
set_option maxHeartbeats 400000 in
theorem get32_any {w0 : World} {base : Nat} {H : List Seg} {A : Option Addr} {C : Nat} {l : List UInt8} (h : Rd tyB w0 base H A C l) (i : Int) (hi : -1000 ≤ i) (hi2 : i ≤ 4611686018427387904) (hl : l.length ≤ 4611686018427387904) :
    SCalls Tryz.prog 138 [.slice A l.length C, .int .i64 i] w0 base (H) (fun v H' => ∃ a b c d : Int, v = .tuple #[int a, int b, .agg #[int c, int d]] ∧ H' = H) := by
  refine SCalls.of_walk (n := 13) Tryz.func138 rfl rfl rfl fun cs => ?_
  refine At.seq ?_
  refine At.region ?_
  refine AtL.assign (.inl rfl) rfl rfl ?_
  refine AtL.assign (.inl rfl) rfl rfl ?_
  refine AtL.alloc tf_zero133 (cs := #[.int .i64 0, .int .i64 0]) rfl (.inl rfl) rfl ?_
  intro b1
  refine AtL.done ?_
  refine At.seq ?_
  refine At.region ?_
  refine AtL.move (.inl rfl) rfl rfl ?_
  refine AtL.move (.inl rfl) rfl rfl ?_
  refine AtL.call tf_body181 (.inl rfl) rfl rfl (get4_any (l := l) (Rd.skip 1 h) i (by omega) (by omega) (by omega)) ?_
  rintro _ _ ⟨n2, k3, e4, f5, rfl, rfl⟩
  refine AtL.extract (.inl rfl) rfl rfl rfl ?_
  refine AtL.extract (.inl rfl) rfl rfl rfl ?_
  refine AtL.extract (.inl rfl) rfl rfl rfl ?_
  refine AtL.assign (.inl rfl) rfl rfl ?_
  refine AtL.assign (.inl rfl) rfl rfl ?_
  refine AtL.store (H' := [(b1, .cells #[.int .i64 e4, .int .i64 f5] 133 (0, 0))] :: H) 0 0 tf_sz133 (.inl rfl) rfl rfl rfl rfl rfl rfl rfl rfl rfl ?_
  refine AtL.done ?_
  exact At.retMP (vs := [.int .i64 n2, .int .i64 k3, .agg #[.int .i64 e4, .int .i64 f5]]) (H2 := H) [] 1 rfl rfl Tryz.func138 rfl ⟨rfl, rfl, ⟨_, rfl, LoadsTo.agg (cs := [.int .i64 e4, .int .i64 f5]) tf_agg133 rfl (cellsOwn 0 0 0 rfl rfl rfl)⟩, trivial⟩ (⟨_, _, _, _, rfl, rfl⟩)
end Go.Proofs.YtlkdmbpbjhjkfaaGreatDoor
namespace Go.Proofs.YtlkdmbpbjhjkfaaGreatDoor
set_option linter.unusedVariables false
set_option linter.unusedSimpArgs false
set_option maxRecDepth 100000
set_option maxHeartbeats 400000 in
theorem parts_ok {w0 : World} {base : Nat} {H : List Seg}  :
    SCalls Tryz.prog 203 [.int .i64 6] w0 base (H) (fun v H' => ∃ b : Nat, v = .tuple #[.slice (some ⟨b, 0, none⟩) 3 3, .bool true] ∧ H' = [(b, .cells #[.int .i64 0, .bool true, .bool false, .int .i64 0, .bool true, .bool false, .int .i64 20, .bool false, .bool false] 241 (0, 0))] :: H) := by
  refine SCalls.of_walk (n := 36) Tryz.func203 rfl rfl rfl fun cs => ?_
  refine At.seq ?_
  refine At.region ?_
  refine AtL.assign (.inl rfl) rfl rfl ?_
  refine AtL.assign (.inl rfl) rfl rfl ?_
  refine AtL.done ?_
  refine At.seq ?_
  refine At.region ?_
  refine AtL.build (cs := [.int .i64 0, .bool true, .bool false]) tf_lay241 (.inl rfl) rfl rfl rfl ?_
  refine AtL.alloc tf_zero241 (cs := #[.int .i64 0, .bool false, .bool false]) rfl (.inl rfl) rfl ?_
  intro b1
  refine AtL.store (H' := [(b1, .cells #[.int .i64 0, .bool true, .bool false] 241 (0, 0))] :: H) 0 0 tf_sz241 (.inl rfl) rfl rfl rfl rfl rfl rfl rfl rfl rfl ?_
  refine AtL.done ?_
  refine At.seq ?_
  refine At.region ?_
  refine AtL.makeMap kyI (fun x : Value => x) (.inl rfl) rfl ?_
  intro b2
  refine AtL.build (cs := [.int .i64 4, .bool false, .bool false]) tf_lay241 (.inl rfl) rfl rfl rfl ?_
  refine AtL.buildSlice (cs := [.int .i64 4, .bool false, .bool false]) Tryz.underlying232 tf_zero241 tf_sz241 rfl rfl (.inl rfl) rfl rfl rfl ?_
  intro b3
  refine AtL.insert (Q := kyI) (tv := (fun x : Value => x)) (a := 1) (v := (.slice (some ⟨b3, 0, none⟩) 1 1)) (H' := [(b3, .cells #[.int .i64 4, .bool false, .bool false] 241 (0, 0))] :: [(b2, mapO kyI (fun x : Value => x) ([(1, (.slice (some ⟨b3, 0, none⟩) 1 1))]))] :: [(b1, .cells #[.int .i64 0, .bool true, .bool false] 241 (0, 0))] :: H) 1 0 Tryz.underlying259 Tryz.underlying3 rfl (.inl rfl) rfl rfl (by first | decide | rfl) rfl rfl rfl rfl ?_
  refine AtL.build (cs := [.int .i64 16, .bool false, .bool false]) tf_lay241 (.inl rfl) rfl rfl rfl ?_
  refine AtL.buildSlice (cs := [.int .i64 16, .bool false, .bool false]) Tryz.underlying232 tf_zero241 tf_sz241 rfl rfl (.inl rfl) rfl rfl rfl ?_
  intro b4
  refine AtL.insert (Q := kyI) (tv := (fun x : Value => x)) (a := 28) (v := (.slice (some ⟨b4, 0, none⟩) 1 1)) (H' := [(b4, .cells #[.int .i64 16, .bool false, .bool false] 241 (0, 0))] :: [(b3, .cells #[.int .i64 4, .bool false, .bool false] 241 (0, 0))] :: [(b2, mapO kyI (fun x : Value => x) ([(1, (.slice (some ⟨b3, 0, none⟩) 1 1)), (28, (.slice (some ⟨b4, 0, none⟩) 1 1))]))] :: [(b1, .cells #[.int .i64 0, .bool true, .bool false] 241 (0, 0))] :: H) 2 0 Tryz.underlying259 Tryz.underlying3 rfl (.inl rfl) rfl rfl (by first | decide | rfl) rfl rfl rfl rfl ?_
  refine AtL.loadN (cs := [.int .i64 0, .bool true, .bool false]) tf_agg241 (.inl rfl) rfl rfl rfl (cellsOwn 3 0 0 rfl rfl rfl) ?_
  refine AtL.buildSlice (cs := [.int .i64 0, .bool true, .bool false]) Tryz.underlying232 tf_zero241 tf_sz241 rfl rfl (.inl rfl) rfl rfl rfl ?_
  intro b5
  refine AtL.insert (Q := kyI) (tv := (fun x : Value => x)) (a := 2) (v := (.slice (some ⟨b5, 0, none⟩) 1 1)) (H' := [(b5, .cells #[.int .i64 0, .bool true, .bool false] 241 (0, 0))] :: [(b4, .cells #[.int .i64 16, .bool false, .bool false] 241 (0, 0))] :: [(b3, .cells #[.int .i64 4, .bool false, .bool false] 241 (0, 0))] :: [(b2, mapO kyI (fun x : Value => x) ([(1, (.slice (some ⟨b3, 0, none⟩) 1 1)), (28, (.slice (some ⟨b4, 0, none⟩) 1 1)), (2, (.slice (some ⟨b5, 0, none⟩) 1 1))]))] :: [(b1, .cells #[.int .i64 0, .bool true, .bool false] 241 (0, 0))] :: H) 3 0 Tryz.underlying259 Tryz.underlying3 rfl (.inl rfl) rfl rfl (by first | decide | rfl) rfl rfl rfl rfl ?_
  refine AtL.loadN (cs := [.int .i64 0, .bool true, .bool false]) tf_agg241 (.inl rfl) rfl rfl rfl (cellsOwn 4 0 0 rfl rfl rfl) ?_
  refine AtL.buildSlice (cs := [.int .i64 0, .bool true, .bool false]) Tryz.underlying232 tf_zero241 tf_sz241 rfl rfl (.inl rfl) rfl rfl rfl ?_
  intro b6
  refine AtL.insert (Q := kyI) (tv := (fun x : Value => x)) (a := 5) (v := (.slice (some ⟨b6, 0, none⟩) 1 1)) (H' := [(b6, .cells #[.int .i64 0, .bool true, .bool false] 241 (0, 0))] :: [(b5, .cells #[.int .i64 0, .bool true, .bool false] 241 (0, 0))] :: [(b4, .cells #[.int .i64 16, .bool false, .bool false] 241 (0, 0))] :: [(b3, .cells #[.int .i64 4, .bool false, .bool false] 241 (0, 0))] :: [(b2, mapO kyI (fun x : Value => x) ([(1, (.slice (some ⟨b3, 0, none⟩) 1 1)), (28, (.slice (some ⟨b4, 0, none⟩) 1 1)), (2, (.slice (some ⟨b5, 0, none⟩) 1 1)), (5, (.slice (some ⟨b6, 0, none⟩) 1 1))]))] :: [(b1, .cells #[.int .i64 0, .bool true, .bool false] 241 (0, 0))] :: H) 4 0 Tryz.underlying259 Tryz.underlying3 rfl (.inl rfl) rfl rfl (by first | decide | rfl) rfl rfl rfl rfl ?_
  refine AtL.loadN (cs := [.int .i64 0, .bool true, .bool false]) tf_agg241 (.inl rfl) rfl rfl rfl (cellsOwn 5 0 0 rfl rfl rfl) ?_
  refine AtL.buildSlice (cs := [.int .i64 0, .bool true, .bool false]) Tryz.underlying232 tf_zero241 tf_sz241 rfl rfl (.inl rfl) rfl rfl rfl ?_
  intro b7
  refine AtL.insert (Q := kyI) (tv := (fun x : Value => x)) (a := 12) (v := (.slice (some ⟨b7, 0, none⟩) 1 1)) (H' := [(b7, .cells #[.int .i64 0, .bool true, .bool false] 241 (0, 0))] :: [(b6, .cells #[.int .i64 0, .bool true, .bool false] 241 (0, 0))] :: [(b5, .cells #[.int .i64 0, .bool true, .bool false] 241 (0, 0))] :: [(b4, .cells #[.int .i64 16, .bool false, .bool false] 241 (0, 0))] :: [(b3, .cells #[.int .i64 4, .bool false, .bool false] 241 (0, 0))] :: [(b2, mapO kyI (fun x : Value => x) ([(1, (.slice (some ⟨b3, 0, none⟩) 1 1)), (28, (.slice (some ⟨b4, 0, none⟩) 1 1)), (2, (.slice (some ⟨b5, 0, none⟩) 1 1)), (5, (.slice (some ⟨b6, 0, none⟩) 1 1)), (12, (.slice (some ⟨b7, 0, none⟩) 1 1))]))] :: [(b1, .cells #[.int .i64 0, .bool true, .bool false] 241 (0, 0))] :: H) 5 0 Tryz.underlying259 Tryz.underlying3 rfl (.inl rfl) rfl rfl (by first | decide | rfl) rfl rfl rfl rfl ?_
  refine AtL.build (cs := [.int .i64 2, .bool false, .bool false]) tf_lay241 (.inl rfl) rfl rfl rfl ?_
  refine AtL.loadN (cs := [.int .i64 0, .bool true, .bool false]) tf_agg241 (.inl rfl) rfl rfl rfl (cellsOwn 6 0 0 rfl rfl rfl) ?_
  refine AtL.buildSlice (cs := [.int .i64 2, .bool false, .bool false, .int .i64 0, .bool true, .bool false]) Tryz.underlying232 tf_zero241 tf_sz241 rfl rfl (.inl rfl) rfl rfl rfl ?_
  intro b8
  refine AtL.insert (Q := kyI) (tv := (fun x : Value => x)) (a := 15) (v := (.slice (some ⟨b8, 0, none⟩) 2 2)) (H' := [(b8, .cells #[.int .i64 2, .bool false, .bool false, .int .i64 0, .bool true, .bool false] 241 (0, 0))] :: [(b7, .cells #[.int .i64 0, .bool true, .bool false] 241 (0, 0))] :: [(b6, .cells #[.int .i64 0, .bool true, .bool false] 241 (0, 0))] :: [(b5, .cells #[.int .i64 0, .bool true, .bool false] 241 (0, 0))] :: [(b4, .cells #[.int .i64 16, .bool false, .bool false] 241 (0, 0))] :: [(b3, .cells #[.int .i64 4, .bool false, .bool false] 241 (0, 0))] :: [(b2, mapO kyI (fun x : Value => x) ([(1, (.slice (some ⟨b3, 0, none⟩) 1 1)), (28, (.slice (some ⟨b4, 0, none⟩) 1 1)), (2, (.slice (some ⟨b5, 0, none⟩) 1 1)), (5, (.slice (some ⟨b6, 0, none⟩) 1 1)), (12, (.slice (some ⟨b7, 0, none⟩) 1 1)), (15, (.slice (some ⟨b8, 0, none⟩) 2 2))]))] :: [(b1, .cells #[.int .i64 0, .bool true, .bool false] 241 (0, 0))] :: H) 6 0 Tryz.underlying259 Tryz.underlying3 rfl (.inl rfl) rfl rfl (by first | decide | rfl) rfl rfl rfl rfl ?_
  refine AtL.loadN (cs := [.int .i64 0, .bool true, .bool false]) tf_agg241 (.inl rfl) rfl rfl rfl (cellsOwn 7 0 0 rfl rfl rfl) ?_
  refine AtL.loadN (cs := [.int .i64 0, .bool true, .bool false]) tf_agg241 (.inl rfl) rfl rfl rfl (cellsOwn 7 0 0 rfl rfl rfl) ?_
  refine AtL.build (cs := [.int .i64 20, .bool false, .bool false]) tf_lay241 (.inl rfl) rfl rfl rfl ?_
  refine AtL.buildSlice (cs := [.int .i64 0, .bool true, .bool false, .int .i64 0, .bool true, .bool false, .int .i64 20, .bool false, .bool false]) Tryz.underlying232 tf_zero241 tf_sz241 rfl rfl (.inl rfl) rfl rfl rfl ?_
  intro b9
  refine AtL.insert (Q := kyI) (tv := (fun x : Value => x)) (a := 6) (v := (.slice (some ⟨b9, 0, none⟩) 3 3)) (H' := [(b9, .cells #[.int .i64 0, .bool true, .bool false, .int .i64 0, .bool true, .bool false, .int .i64 20, .bool false, .bool false] 241 (0, 0))] :: [(b8, .cells #[.int .i64 2, .bool false, .bool false, .int .i64 0, .bool true, .bool false] 241 (0, 0))] :: [(b7, .cells #[.int .i64 0, .bool true, .bool false] 241 (0, 0))] :: [(b6, .cells #[.int .i64 0, .bool true, .bool false] 241 (0, 0))] :: [(b5, .cells #[.int .i64 0, .bool true, .bool false] 241 (0, 0))] :: [(b4, .cells #[.int .i64 16, .bool false, .bool false] 241 (0, 0))] :: [(b3, .cells #[.int .i64 4, .bool false, .bool false] 241 (0, 0))] :: [(b2, mapO kyI (fun x : Value => x) ([(1, (.slice (some ⟨b3, 0, none⟩) 1 1)), (28, (.slice (some ⟨b4, 0, none⟩) 1 1)), (2, (.slice (some ⟨b5, 0, none⟩) 1 1)), (5, (.slice (some ⟨b6, 0, none⟩) 1 1)), (12, (.slice (some ⟨b7, 0, none⟩) 1 1)), (15, (.slice (some ⟨b8, 0, none⟩) 2 2)), (6, (.slice (some ⟨b9, 0, none⟩) 3 3))]))] :: [(b1, .cells #[.int .i64 0, .bool true, .bool false] 241 (0, 0))] :: H) 7 0 Tryz.underlying259 Tryz.underlying3 rfl (.inl rfl) rfl rfl (by first | decide | rfl) rfl rfl rfl rfl ?_
  refine AtL.build (cs := [.int .i64 0, .bool false, .bool true]) tf_lay241 (.inl rfl) rfl rfl rfl ?_
  refine AtL.buildSlice (cs := [.int .i64 0, .bool false, .bool true]) Tryz.underlying232 tf_zero241 tf_sz241 rfl rfl (.inl rfl) rfl rfl rfl ?_
  intro b10
  refine AtL.insert (Q := kyI) (tv := (fun x : Value => x)) (a := 16) (v := (.slice (some ⟨b10, 0, none⟩) 1 1)) (H' := [(b10, .cells #[.int .i64 0, .bool false, .bool true] 241 (0, 0))] :: [(b9, .cells #[.int .i64 0, .bool true, .bool false, .int .i64 0, .bool true, .bool false, .int .i64 20, .bool false, .bool false] 241 (0, 0))] :: [(b8, .cells #[.int .i64 2, .bool false, .bool false, .int .i64 0, .bool true, .bool false] 241 (0, 0))] :: [(b7, .cells #[.int .i64 0, .bool true, .bool false] 241 (0, 0))] :: [(b6, .cells #[.int .i64 0, .bool true, .bool false] 241 (0, 0))] :: [(b5, .cells #[.int .i64 0, .bool true, .bool false] 241 (0, 0))] :: [(b4, .cells #[.int .i64 16, .bool false, .bool false] 241 (0, 0))] :: [(b3, .cells #[.int .i64 4, .bool false, .bool false] 241 (0, 0))] :: [(b2, mapO kyI (fun x : Value => x) ([(1, (.slice (some ⟨b3, 0, none⟩) 1 1)), (28, (.slice (some ⟨b4, 0, none⟩) 1 1)), (2, (.slice (some ⟨b5, 0, none⟩) 1 1)), (5, (.slice (some ⟨b6, 0, none⟩) 1 1)), (12, (.slice (some ⟨b7, 0, none⟩) 1 1)), (15, (.slice (some ⟨b8, 0, none⟩) 2 2)), (6, (.slice (some ⟨b9, 0, none⟩) 3 3)), (16, (.slice (some ⟨b10, 0, none⟩) 1 1))]))] :: [(b1, .cells #[.int .i64 0, .bool true, .bool false] 241 (0, 0))] :: H) 8 0 Tryz.underlying259 Tryz.underlying3 rfl (.inl rfl) rfl rfl (by first | decide | rfl) rfl rfl rfl rfl ?_
  refine AtL.move (.inl rfl) rfl rfl ?_
  refine AtL.move (.inl rfl) rfl rfl ?_
  refine AtL.lookup (Q := kyI) (tv := (fun x : Value => x)) (a := 6) (v := .tuple #[.slice (some ⟨b9, 0, none⟩) 3 3, .bool true]) 8 0 Tryz.underlying259 Tryz.underlying3 rfl tf_zero232 (.inl rfl) rfl rfl rfl rfl rfl rfl ?_
  refine AtL.move (.inl rfl) rfl rfl ?_
  refine AtL.extract (.inl rfl) rfl rfl rfl ?_
  refine AtL.extract (.inl rfl) rfl rfl rfl ?_
  refine AtL.assign (.inl rfl) rfl rfl ?_
  refine AtL.assign (.inl rfl) rfl rfl ?_
  refine AtL.done ?_
  refine At.seq ?_
  refine At.region ?_
  refine AtL.move (.inl rfl) rfl rfl ?_
  refine AtL.move (.inl rfl) rfl rfl ?_
  refine AtL.assign (.inl rfl) rfl rfl ?_
  refine AtL.assign (.inl rfl) rfl rfl ?_
  refine AtL.done ?_
  refine At.pick (H' := [(b9, .cells #[.int .i64 0, .bool true, .bool false, .int .i64 0, .bool true, .bool false, .int .i64 20, .bool false, .bool false] 241 (0, 0))] :: H) [1] 10 rfl rfl ?_
  exact At.ret Tryz.func203 rfl rfl (⟨b9, rfl, rfl⟩)
set_option maxHeartbeats 400000 in
theorem first_ok {w0 : World} {base : Nat} {H : List Seg} (s : List UInt8) (hs : s.length ≤ 140737488355328) :
    PCalls Tryz.prog 206 [str s] w0 base (H) (fun v H' => ∃ l : List UInt8, l.length ≤ s.length ∧ v = str l ∧ H' = H) (fun ch H' => ch = [{ v := .iface 238 (.agg #[]), recovered := false }] ∧ H' = H) := by
  refine PCalls.of_walk (n := 34) Tryz.func206 rfl rfl rfl fun cs => ?_
  refine At.seq ?_
  refine At.region ?_
  refine AtL.assign (.inl rfl) rfl rfl ?_
  refine AtL.done ?_
  refine At.seq ?_
  refine At.seq ?_
  refine At.region ?_
  refine AtL.assign (.inl rfl) rfl rfl ?_
  refine AtL.done ?_
  refine At.block ?_
  refine At.loop (fun (i : Nat) => [(0, str s), (2, str []), (3, .int .i64 (i : Int))]) (fun (i : Nat) => H) (fun (i : Nat) => i ≤ 600) (fun (i : Nat) => 600 - i) 0 (by omega) ⟨rfl, rfl, rfl, trivial⟩ rfl ?_
  rintro i hi ihL1
  have hbi := (s.getD i 0).toNat_lt
  refine At.seq ?_
  refine At.seq ?_
  refine At.region ?_
  refine AtL.move (.inl rfl) rfl rfl ?_
  refine AtL.move (.inl rfl) rfl rfl ?_
  refine AtL.lenS (l := s) Tryz.underlying9 (.inl rfl) rfl rfl ?_
  refine AtL.lss (.inl rfl) rfl rfl rfl ?_
  refine AtL.move (.inl rfl) rfl rfl ?_
  refine AtL.join 3 (E' := [(12, .bool (decide (((i : Int) < (s.length : Int)) ∧ ((i : Int) < 255)))), (0, str s), (2, str []), (3, .int .i64 (i : Int))]) (H' := H) (fun J => ?_) ?_
  · refine AtL.split (t := 9) rfl ?_ ?_
    · intro hs9
      have hs9 : (i : Int) < (s.length : Int) := of_decide_eq_true hs9
      refine AtL.move (.inr ⟨_, _, _, rfl, rfl, rfl, rfl⟩) rfl rfl ?_
      refine AtL.lss (.inr ⟨_, _, _, rfl, rfl, rfl, rfl⟩) rfl rfl rfl ?_
      refine AtL.pickT (.inl rfl) rfl rfl rfl ?_
      exact J _ (by exact ⟨(boolIs (by clear J; first | (simp [hs9]; done) | (simp_all; done) | grind)), rfl, rfl, rfl, trivial⟩)
    · intro hs9
      have hs9 : ¬ ((i : Int) < (s.length : Int)) := of_decide_eq_false hs9
      refine AtL.skipped rfl rfl rfl rfl rfl rfl ?_
      refine AtL.skipped rfl rfl rfl rfl rfl rfl ?_
      refine AtL.pickF (.inl rfl) rfl rfl rfl ?_
      exact J _ (by exact ⟨(boolIs (by clear J; first | (simp [hs9]; done) | (simp_all; done) | grind)), rfl, rfl, rfl, trivial⟩)
  · skip
    refine AtL.done ?_
    refine At.cond rfl ?_ ?_
    · intro hc1
      have hc1 : ((i : Int) < (s.length : Int)) ∧ ((i : Int) < 255) := of_decide_eq_true hc1
      refine At.skip ?_
      refine At.seq ?_
      refine At.block ?_
      refine At.seq ?_
      refine At.region ?_
      refine AtL.move (.inl rfl) rfl rfl ?_
      refine AtL.move (.inl rfl) rfl rfl ?_
      refine AtL.indexS (l := s) i rfl (by omega) Tryz.underlying9 (.inl rfl) rfl rfl rfl ?_
      refine AtL.eqi (.inl rfl) rfl rfl rfl ?_
      refine AtL.done ?_
      refine At.cond rfl ?_ ?_
      · intro hc2
        have hc2 : ((s.getD i 0).toNat : Int) = 0 := of_decide_eq_true hc2
        refine At.seq ?_
        refine At.seq ?_
        refine At.region ?_
        refine AtL.move (.inl rfl) rfl rfl ?_
        refine AtL.move (.inl rfl) rfl rfl ?_
        refine AtL.add (z := (i : Int) + 1) (.inl rfl) rfl rfl rfl (w64 (by omega) (by omega)) ?_
        refine AtL.sliceS (l := s) 0 (i + 1) rfl (evBound_some rfl rfl) (by omega) (by omega) Tryz.underlying9 (.inl rfl) rfl rfl ?_
        refine AtL.assign (.inl rfl) rfl rfl ?_
        refine AtL.done ?_
        refine At.seq ?_
        refine At.region ?_
        refine AtL.move (.inl rfl) rfl rfl ?_
        refine AtL.call tf_body221 (.inl rfl) rfl rfl (ncheck_ok (subl s 0 (i + 1)) (by rw [subl_len (by omega)]; omega)) ?_
        rintro _ _ ⟨e1, rfl, hHq⟩
        obtain rfl := hHq.symm
        refine AtL.eqi (.inl rfl) rfl rfl rfl ?_
        refine AtL.done ?_
        refine At.cond rfl ?_ ?_
        · intro hc3
          have hc3 : (e1 : Int) = 0 := of_decide_eq_true hc3
          refine At.seq ?_
          refine At.region ?_
          refine AtL.move (.inl rfl) rfl rfl ?_
          refine AtL.assign (.inl rfl) rfl rfl ?_
          refine AtL.done ?_
          refine At.toQ ?_
          exact At.ret Tryz.func206 rfl rfl (⟨subl s 0 (i + 1), by rw [subl_len (by omega)]; omega, rfl, rfl⟩)
        · intro hc3
          have hc3 : ¬ ((e1 : Int) = 0) := of_decide_eq_false hc3
          refine At.skip ?_
          refine At.exit rfl ?_
          refine At.region ?_
          refine AtL.build (cs := []) tf_lay238 (.inl rfl) rfl rfl rfl ?_
          refine AtL.makeIface Tryz.underlying238 rfl (.inl rfl) rfl rfl ?_
          refine AtL.panicV (.inl rfl) rfl ?_
          exact Un.panicQ Tryz.func206 (⟨rfl, rfl⟩)
      · intro hc2
        have hc2 : ¬ (((s.getD i 0).toNat : Int) = 0) := of_decide_eq_false hc2
        refine At.skip ?_
        refine At.inBlock ?_
        refine At.region ?_
        refine AtL.move (.inl rfl) rfl rfl ?_
        refine AtL.move (.inl rfl) rfl rfl ?_
        refine AtL.move (.inl rfl) rfl rfl ?_
        refine AtL.indexS (l := s) i rfl (by omega) Tryz.underlying9 (.inl rfl) rfl rfl rfl ?_
        have hB2 := u8_le (s.getD i 0)
        refine AtL.convInt (z := ((s.getD i 0).toNat : Int)) Tryz.underlying5 Tryz.underlying3 (.inl rfl) rfl rfl (u8_i64 _) ?_
        refine AtL.add (z := 1 + ((s.getD i 0).toNat : Int)) (.inl rfl) rfl rfl rfl (w64 (by omega) (by omega)) ?_
        refine AtL.add (z := (i : Int) + (1 + ((s.getD i 0).toNat : Int))) (.inl rfl) rfl rfl rfl (w64 (by omega) (by omega)) ?_
        refine AtL.assign (.inl rfl) rfl rfl ?_
        refine AtL.done ?_
        refine ihL1 (i + (1 + ((s.getD i 0).toNat))) (by omega) (by omega) _ ?_
        exact ⟨rfl, (by first | rfl | exact slLen (by simp []) | exact intEq (by omega) | exact intEq (by simp []) | exact slLen (by simp []; omega)), (by first | rfl | exact slLen (by simp []) | exact intEq (by omega) | exact intEq (by simp []) | exact slLen (by simp []; omega)), trivial⟩
    · intro hc1
      have hc1 : ¬ (((i : Int) < (s.length : Int)) ∧ ((i : Int) < 255)) := of_decide_eq_false hc1
      refine At.exit rfl ?_
      refine At.region ?_
      refine AtL.build (cs := []) tf_lay238 (.inl rfl) rfl rfl rfl ?_
      refine AtL.makeIface Tryz.underlying238 rfl (.inl rfl) rfl rfl ?_
      refine AtL.panicV (.inl rfl) rfl ?_
      exact Un.panicQ Tryz.func206 (⟨rfl, rfl⟩)
set_option maxHeartbeats 400000 in
theorem split1_ret {w0 : World} {base : Nat} {H : List Seg} {b c : Nat} {x y : Value} :
    DCalls Tryz.prog 204 [.pointer (some ⟨b, 0, none⟩), .pointer (some ⟨c, 0, none⟩)] w0 base ([(b, .cells #[x] 213 (0, 0))] :: [(c, .cells #[y] 4 (0, 0))] :: H) .returning (fun m' H' => m' = .returning ∧ H' = [(b, .cells #[x] 213 (0, 0))] :: [(c, .cells #[y] 4 (0, 0))] :: H) := by
  refine DCalls.of_walk (n := 15) Tryz.func204 rfl rfl rfl fun fr cs => ?_
  refine At.seq ?_
  refine At.region ?_
  refine AtL.recoverNone rfl ?_
  refine AtL.assign (.inl rfl) rfl rfl ?_
  refine AtL.done ?_
  refine At.seq ?_
  refine At.seq ?_
  refine At.region ?_
  refine AtL.move (.inl rfl) rfl rfl ?_
  refine AtL.typeAssert (u := .tuple #[.agg #[], .bool false]) (.inl rfl) rfl rfl (fun w => by kernel_rfl) ?_
  refine AtL.move (.inl rfl) rfl rfl ?_
  refine AtL.extract (.inl rfl) rfl rfl rfl ?_
  refine AtL.extract (.inl rfl) rfl rfl rfl ?_
  refine AtL.alloc tf_zero238 (cs := #[]) rfl (.inl rfl) rfl ?_
  intro b1
  refine AtL.store (H' := [(b1, .cells #[] 238 (0, 0))] :: [(b, .cells #[x] 213 (0, 0))] :: [(c, .cells #[y] 4 (0, 0))] :: H) 0 0 tf_sz238 (.inl rfl) rfl rfl rfl rfl rfl rfl rfl rfl rfl ?_
  refine AtL.assign (.inl rfl) rfl rfl ?_
  refine AtL.done ?_
  refine At.seq ?_
  refine At.region ?_
  refine AtL.move (.inl rfl) rfl rfl ?_
  refine AtL.done ?_
  refine At.condF rfl ?_
  refine At.skip ?_
  refine At.seq ?_
  refine At.region ?_
  refine AtL.move (.inl rfl) rfl rfl ?_
  refine AtL.neNilIface Tryz.underlying20 (.inl rfl) rfl rfl ?_
  refine AtL.done ?_
  refine At.condF rfl ?_
  refine At.skip ?_
  refine At.endU rfl ?_
  refine Un.pick (H' := [(b, .cells #[x] 213 (0, 0))] :: [(c, .cells #[y] 4 (0, 0))] :: H) [1, 2] 3 rfl rfl ?_
  exact Un.leftD (vs := []) Tryz.func204 rfl trivial (⟨rfl, rfl⟩)
set_option maxHeartbeats 400000 in
theorem split1_bad {w0 : World} {base : Nat} {H : List Seg} {b c : Nat} {x y : Value} :
    DCalls Tryz.prog 204 [.pointer (some ⟨b, 0, none⟩), .pointer (some ⟨c, 0, none⟩)] w0 base ([(b, .cells #[x] 213 (0, 0))] :: [(c, .cells #[y] 4 (0, 0))] :: H) (.panicking [{ v := .iface 238 (.agg #[]), recovered := false }]) (fun m' H' => m' = .returning ∧ H' = [(b, .cells #[.slice none 0 0] 213 (0, 0))] :: [(c, .cells #[.bool false] 4 (0, 0))] :: H) := by
  refine DCalls.of_walk (n := 15) Tryz.func204 rfl rfl rfl fun fr cs => ?_
  refine At.seq ?_
  refine At.region ?_
  refine AtL.recoverSome rfl ?_
  refine AtL.assign (.inl rfl) rfl rfl ?_
  refine AtL.done ?_
  refine At.seq ?_
  refine At.seq ?_
  refine At.region ?_
  refine AtL.move (.inl rfl) rfl rfl ?_
  refine AtL.typeAssert (u := .tuple #[.agg #[], .bool true]) (.inl rfl) rfl rfl (fun w => by kernel_rfl) ?_
  refine AtL.move (.inl rfl) rfl rfl ?_
  refine AtL.extract (.inl rfl) rfl rfl rfl ?_
  refine AtL.extract (.inl rfl) rfl rfl rfl ?_
  refine AtL.alloc tf_zero238 (cs := #[]) rfl (.inl rfl) rfl ?_
  intro b1
  refine AtL.store (H' := [(b1, .cells #[] 238 (0, 0))] :: [(b, .cells #[x] 213 (0, 0))] :: [(c, .cells #[y] 4 (0, 0))] :: H) 0 0 tf_sz238 (.inl rfl) rfl rfl rfl rfl rfl rfl rfl rfl rfl ?_
  refine AtL.assign (.inl rfl) rfl rfl ?_
  refine AtL.done ?_
  refine At.seq ?_
  refine At.region ?_
  refine AtL.move (.inl rfl) rfl rfl ?_
  refine AtL.done ?_
  refine At.condT rfl ?_
  refine At.seq ?_
  refine At.region ?_
  refine AtL.store (H' := [(b1, .cells #[] 238 (0, 0))] :: [(b, .cells #[.slice none 0 0] 213 (0, 0))] :: [(c, .cells #[y] 4 (0, 0))] :: H) 1 0 tf_sz213 (.inl rfl) rfl rfl rfl rfl rfl rfl rfl rfl rfl ?_
  refine AtL.store (H' := [(b1, .cells #[] 238 (0, 0))] :: [(b, .cells #[.slice none 0 0] 213 (0, 0))] :: [(c, .cells #[.bool false] 4 (0, 0))] :: H) 2 0 tf_sz4 (.inl rfl) rfl rfl rfl rfl rfl rfl rfl rfl rfl ?_
  refine AtL.done ?_
  refine At.retU rfl ?_
  refine Un.pick (H' := [(b, .cells #[.slice none 0 0] 213 (0, 0))] :: [(c, .cells #[.bool false] 4 (0, 0))] :: H) [1, 2] 3 rfl rfl ?_
  exact Un.leftD (vs := []) Tryz.func204 rfl trivial (⟨rfl, rfl⟩)
set_option maxHeartbeats 400000 in
theorem split_ok6 {w0 : World} {base : Nat} {H : List Seg} (s : List UInt8) (hs : s.length ≤ 140737488355328) :
    SCalls Tryz.prog 180 [.int .i64 6, str s] w0 base (H) (fun v H' => ∃ (v0 : Value) (b : Bool), v = .tuple #[v0, .bool b] ∧ H' = H) := by
  refine SCalls.of_walk (n := 72) Tryz.func180 rfl rfl rfl fun cs => ?_
  refine At.seq ?_
  refine At.region ?_
  refine AtL.alloc tf_zero213 (cs := #[.slice none 0 0]) rfl (.inl rfl) rfl ?_
  intro b1
  refine AtL.alloc tf_zero4 (cs := #[.bool false]) rfl (.inl rfl) rfl ?_
  intro b2
  refine AtL.done ?_
  refine At.seq ?_
  refine At.region ?_
  refine AtL.move (.inl rfl) rfl rfl ?_
  refine AtL.call tf_body203 (.inl rfl) rfl rfl parts_ok ?_
  rintro _ _ ⟨b3, rfl, rfl⟩
  refine AtL.move (.inl rfl) rfl rfl ?_
  refine AtL.extract (.inl rfl) rfl rfl rfl ?_
  refine AtL.extract (.inl rfl) rfl rfl rfl ?_
  refine AtL.assign (.inl rfl) rfl rfl ?_
  refine AtL.assign (.inl rfl) rfl rfl ?_
  refine AtL.done ?_
  refine At.seq ?_
  refine At.seq ?_
  refine At.region ?_
  refine AtL.move (.inl rfl) rfl rfl ?_
  refine AtL.not (.inl rfl) rfl rfl ?_
  refine AtL.done ?_
  refine At.condF rfl ?_
  refine At.skip ?_
  refine At.seq ?_
  refine At.region ?_
  refine AtL.makeFunc (.inl rfl) rfl rfl rfl ?_
  refine AtL.defer rfl (.inl rfl) rfl rfl rfl ?_
  refine AtL.done ?_
  refine At.seq ?_
  refine At.seq ?_
  refine At.region ?_
  refine AtL.move (.inl rfl) rfl rfl ?_
  refine AtL.lenL Tryz.underlying232 (.inl rfl) rfl rfl ?_
  refine AtL.move (.inl rfl) rfl rfl ?_
  refine AtL.done ?_
  refine At.block ?_
  refine At.unroll ?_
  refine At.seq ?_
  refine At.region ?_
  refine AtL.lss (.inl rfl) rfl rfl rfl ?_
  refine AtL.done ?_
  refine At.seq ?_
  refine At.condT rfl ?_
  refine At.skip ?_
  refine At.seq ?_
  refine At.block ?_
  refine At.seq ?_
  refine At.region ?_
  refine AtL.indexB 0 Tryz.underlying232 tf_sz241 (.inl rfl) rfl rfl rfl rfl rfl rfl ?_
  refine AtL.loadN (cs := [.int .i64 0, .bool true, .bool false]) tf_agg241 (.inl rfl) rfl rfl rfl (cellsOwn 0 0 0 rfl rfl rfl) ?_
  refine AtL.alloc tf_zero241 (cs := #[.int .i64 0, .bool false, .bool false]) rfl (.inl rfl) rfl ?_
  intro b4
  refine AtL.store (H' := [(b4, .cells #[.int .i64 0, .bool true, .bool false] 241 (0, 0))] :: [(b3, .cells #[.int .i64 0, .bool true, .bool false, .int .i64 0, .bool true, .bool false, .int .i64 20, .bool false, .bool false] 241 (0, 0))] :: [(b2, .cells #[.bool false] 4 (0, 0))] :: [(b1, .cells #[.slice none 0 0] 213 (0, 0))] :: H) 0 0 tf_sz241 (.inl rfl) rfl rfl rfl rfl rfl rfl rfl rfl rfl ?_
  refine AtL.done ?_
  refine At.seq ?_
  refine At.region ?_
  refine AtL.fieldAddrB tf_fo241_0 (.inl rfl) rfl rfl rfl ?_
  refine AtL.load tf_flat3 (.inl rfl) rfl rfl (Cell.own 0 0 rfl rfl rfl) ?_
  refine AtL.assign (.inl rfl) rfl rfl ?_
  refine AtL.done ?_
  refine At.seq ?_
  refine At.block ?_
  refine At.seq ?_
  refine At.region ?_
  refine AtL.fieldAddrB tf_fo241_2 (.inl rfl) rfl rfl rfl ?_
  refine AtL.load tf_flat4 (.inl rfl) rfl rfl (Cell.own 0 0 rfl rfl rfl) ?_
  refine AtL.move (.inl rfl) rfl rfl ?_
  refine AtL.skipped rfl rfl rfl rfl rfl rfl ?_
  refine AtL.skipped rfl rfl rfl rfl rfl rfl ?_
  refine AtL.pickF (.inl rfl) rfl rfl rfl ?_
  refine AtL.assign (.inl rfl) rfl rfl ?_
  refine AtL.done ?_
  refine At.condF rfl ?_
  refine At.seq ?_
  refine At.region ?_
  refine AtL.fieldAddrB tf_fo241_1 (.inl rfl) rfl rfl rfl ?_
  refine AtL.load tf_flat4 (.inl rfl) rfl rfl (Cell.own 0 0 rfl rfl rfl) ?_
  refine AtL.assign (.inl rfl) rfl rfl ?_
  refine AtL.done ?_
  refine At.condT rfl ?_
  refine At.region ?_
  refine AtL.move (.inl rfl) rfl rfl ?_
  refine AtL.callQ tf_body206 (.inl rfl) rfl rfl (first_ok s (by first | omega | (rw [subl_len (by omega)]; omega))) ?_ ?_
  · skip
    rintro _ _ ⟨rfl, rfl⟩
    refine Un.pick (H' := [(b1, .cells #[.slice none 0 0] 213 (0, 0))] :: [(b2, .cells #[.bool false] 4 (0, 0))] :: [(b4, .cells #[.int .i64 0, .bool true, .bool false] 241 (0, 0))] :: [(b3, .cells #[.int .i64 0, .bool true, .bool false, .int .i64 0, .bool true, .bool false, .int .i64 20, .bool false, .bool false] 241 (0, 0))] :: H) [3, 2, 0, 1] 4 rfl rfl ?_
    refine Un.defer tf_body204 rfl rfl split1_bad ?_
    rintro _ _ ⟨rfl, rfl⟩
    exact Un.leftP (vs := [.slice none 0 0, .bool false]) (H2 := H) [] 4 rfl rfl Tryz.func180 rfl ⟨⟨_, rfl, LoadsTo.flat tf_flat213 (Cell.own 0 0 rfl rfl rfl)⟩, ⟨_, rfl, LoadsTo.flat tf_flat4 (Cell.own 1 0 rfl rfl rfl)⟩, trivial⟩ (⟨_, _, rfl, rfl⟩)
  rintro _ _ ⟨l5, hl6, rfl, rfl⟩
  refine AtL.lenS (l := l5) Tryz.underlying9 (.inl rfl) rfl rfl ?_
  refine AtL.assign (.inl rfl) rfl rfl ?_
  refine AtL.done ?_
  refine At.inBlock ?_
  refine At.seq ?_
  refine At.nil ?_
  refine At.draw (es := [7, 8, 9]) (pv := [(0, .slice none 0 0), (1, str s), (2, .int .i64 (l5.length : Int)), (3, str (subl s 0 l5.length)), (4, .pointer (some ⟨b4, 1, none⟩)), (5, .bool true), (6, .agg #[str (subl s 0 l5.length), .bool true])]) tf_mixed (by kernel_rfl) (by kernel_rfl) (by kernel_rfl) ?_
  refine ⟨⟨.inr ⟨_, rfl, rfl, .inl ⟨rfl, Do.load tf_flat213 rfl (Cell.own 4 0 rfl rfl rfl)⟩⟩, .inr ⟨_, rfl, rfl, .inl ⟨rfl, Do.move rfl⟩⟩, .inr ⟨_, rfl, rfl, .inl ⟨rfl, Do.move rfl⟩⟩, .inr ⟨_, rfl, rfl, .inl ⟨rfl, Do.sliceS (l := s) 0 l5.length rfl (evBound_some rfl rfl) (by omega) (by omega) Tryz.underlying9 rfl⟩⟩, .inr ⟨_, rfl, rfl, .inl ⟨rfl, Do.fieldAddrB tf_fo241_1 rfl rfl⟩⟩, .inr ⟨_, rfl, rfl, .inl ⟨rfl, Do.load tf_flat4 rfl (Cell.own 1 0 rfl rfl rfl)⟩⟩, .inr ⟨_, rfl, rfl, .inl ⟨rfl, Do.build (cs := [str (subl s 0 l5.length), .bool true]) tf_lay236 rfl rfl⟩⟩, trivial⟩, rfl, rfl, by kernel_rfl, _, rfl, rfl, rfl, _, Do.own1 tyPiece (l := ([(subl s 0 l5.length, true)] : List (List UInt8 × Bool))) (Do.buildSlice (cs := [str (subl s 0 l5.length), .bool true]) Tryz.underlying213 tf_zero236 tf_sz236 rfl rfl rfl rfl) rfl rfl (by first | decide | simp), ?_⟩
  rintro _ _ ⟨b7, s8, o9, rfl, rfl⟩
  refine ⟨[], rfl, ?_⟩
  refine ⟨⟨.inr ⟨_, rfl, rfl, .inl ⟨rfl, Do.load tf_flat213 rfl (Cell.own 5 0 rfl rfl rfl)⟩⟩, .inl (by kernel_rfl), .inl (by kernel_rfl), .inl (by kernel_rfl), .inl (by kernel_rfl), .inl (by kernel_rfl), .inl (by kernel_rfl), trivial⟩, rfl, rfl, by kernel_rfl, _, rfl, rfl, rfl, _, Do.append (l := []) (news := [(subl s 0 l5.length, true)]) 1 tf_el213 rfl (Own.nil tyPiece 236) (o9.rd (i := 0) rfl) (by first | omega | (simp only [List.length_append, List.length_cons, List.length_nil]; omega) | (simp; done) | (simp; omega)) rfl rfl, ?_⟩
  rintro _ _ ⟨A10, C11, s12, o13, rfl, rfl⟩
  refine ⟨[], rfl, ?_⟩
  refine ⟨⟨.inl (by kernel_rfl), .inl (by kernel_rfl), .inl (by kernel_rfl), .inl (by kernel_rfl), .inl (by kernel_rfl), .inl (by kernel_rfl), .inl (by kernel_rfl), trivial⟩, rfl, rfl, by kernel_rfl, _, rfl, rfl, rfl, _, Do.store (H' := s8 :: s12 :: [(b4, .cells #[.int .i64 0, .bool true, .bool false] 241 (0, 0))] :: [(b3, .cells #[.int .i64 0, .bool true, .bool false, .int .i64 0, .bool true, .bool false, .int .i64 20, .bool false, .bool false] 241 (0, 0))] :: [(b2, .cells #[.bool false] 4 (0, 0))] :: [(b1, .cells #[.slice A10 ([] ++ [(subl s 0 l5.length, true)]).length C11] 213 (0, 0))] :: H) 5 0 tf_sz213 rfl rfl rfl rfl rfl rfl rfl rfl rfl, ?_⟩
  rintro _ _ ⟨rfl, rfl⟩
  refine ⟨[], rfl, ?_⟩
  refine ⟨⟨.inl (by kernel_rfl), .inl (by kernel_rfl), .inl (by kernel_rfl), .inl (by kernel_rfl), .inl (by kernel_rfl), .inl (by kernel_rfl), .inl (by kernel_rfl), trivial⟩, by kernel_rfl, ?_⟩
  refine At.mono (E' := [(1, str s), (4, .pointer (some ⟨b1, 0, none⟩)), (5, .pointer (some ⟨b2, 0, none⟩)), (10, .int .i64 (l5.length : Int)), (22, .slice (some ⟨b3, 0, none⟩) 3 3), (23, .int .i64 3), (24, .int .i64 0)]) ⟨rfl, rfl, rfl, rfl, rfl, rfl, rfl, trivial⟩ ?_
  refine At.region ?_
  refine AtL.move (.inl rfl) rfl rfl ?_
  refine AtL.move (.inl rfl) rfl rfl ?_
  refine AtL.sliceS (l := s) l5.length s.length (evBound_some rfl rfl) rfl (by omega) (by omega) Tryz.underlying9 (.inl rfl) rfl rfl ?_
  refine AtL.assign (.inl rfl) rfl rfl ?_
  refine AtL.done ?_
  refine At.inBlock ?_
  refine At.region ?_
  refine AtL.add (z := 1) (.inl rfl) rfl rfl rfl (by decide) ?_
  refine AtL.move (.inl rfl) rfl rfl ?_
  refine AtL.done ?_
  refine At.again ?_
  refine At.seq ?_
  refine At.region ?_
  refine AtL.lss (.inl rfl) rfl rfl rfl ?_
  refine AtL.done ?_
  refine At.seq ?_
  refine At.condT rfl ?_
  refine At.skip ?_
  refine At.seq ?_
  refine At.block ?_
  refine At.seq ?_
  refine At.region ?_
  refine AtL.indexB 1 Tryz.underlying232 tf_sz241 (.inl rfl) rfl rfl rfl rfl rfl rfl ?_
  refine AtL.loadN (cs := [.int .i64 0, .bool true, .bool false]) tf_agg241 (.inl rfl) rfl rfl rfl (cellsOwn 3 0 3 rfl rfl rfl) ?_
  refine AtL.alloc tf_zero241 (cs := #[.int .i64 0, .bool false, .bool false]) rfl (.inl rfl) rfl ?_
  intro b21
  refine AtL.store (H' := [(b21, .cells #[.int .i64 0, .bool true, .bool false] 241 (0, 0))] :: s8 :: s12 :: [(b4, .cells #[.int .i64 0, .bool true, .bool false] 241 (0, 0))] :: [(b3, .cells #[.int .i64 0, .bool true, .bool false, .int .i64 0, .bool true, .bool false, .int .i64 20, .bool false, .bool false] 241 (0, 0))] :: [(b2, .cells #[.bool false] 4 (0, 0))] :: [(b1, .cells #[.slice A10 ([] ++ [(subl s 0 l5.length, true)]).length C11] 213 (0, 0))] :: H) 0 0 tf_sz241 (.inl rfl) rfl rfl rfl rfl rfl rfl rfl rfl rfl ?_
  refine AtL.done ?_
  refine At.seq ?_
  refine At.region ?_
  refine AtL.fieldAddrB tf_fo241_0 (.inl rfl) rfl rfl rfl ?_
  refine AtL.load tf_flat3 (.inl rfl) rfl rfl (Cell.own 0 0 rfl rfl rfl) ?_
  refine AtL.assign (.inl rfl) rfl rfl ?_
  refine AtL.done ?_
  refine At.seq ?_
  refine At.block ?_
  refine At.seq ?_
  refine At.region ?_
  refine AtL.fieldAddrB tf_fo241_2 (.inl rfl) rfl rfl rfl ?_
  refine AtL.load tf_flat4 (.inl rfl) rfl rfl (Cell.own 0 0 rfl rfl rfl) ?_
  refine AtL.move (.inl rfl) rfl rfl ?_
  refine AtL.skipped rfl rfl rfl rfl rfl rfl ?_
  refine AtL.skipped rfl rfl rfl rfl rfl rfl ?_
  refine AtL.pickF (.inl rfl) rfl rfl rfl ?_
  refine AtL.assign (.inl rfl) rfl rfl ?_
  refine AtL.done ?_
  refine At.condF rfl ?_
  refine At.seq ?_
  refine At.region ?_
  refine AtL.fieldAddrB tf_fo241_1 (.inl rfl) rfl rfl rfl ?_
  refine AtL.load tf_flat4 (.inl rfl) rfl rfl (Cell.own 0 0 rfl rfl rfl) ?_
  refine AtL.assign (.inl rfl) rfl rfl ?_
  refine AtL.done ?_
  refine At.condT rfl ?_
  refine At.region ?_
  refine AtL.move (.inl rfl) rfl rfl ?_
  refine AtL.callQ tf_body206 (.inl rfl) rfl rfl (first_ok (subl s l5.length s.length) (by first | omega | (rw [subl_len (by omega)]; omega))) ?_ ?_
  · skip
    rintro _ _ ⟨rfl, rfl⟩
    refine Un.pick (H' := [(b1, .cells #[.slice A10 ([] ++ [(subl s 0 l5.length, true)]).length C11] 213 (0, 0))] :: [(b2, .cells #[.bool false] 4 (0, 0))] :: [(b21, .cells #[.int .i64 0, .bool true, .bool false] 241 (0, 0))] :: s8 :: s12 :: [(b4, .cells #[.int .i64 0, .bool true, .bool false] 241 (0, 0))] :: [(b3, .cells #[.int .i64 0, .bool true, .bool false, .int .i64 0, .bool true, .bool false, .int .i64 20, .bool false, .bool false] 241 (0, 0))] :: H) [6, 5, 0, 1, 2, 3, 4] 7 rfl rfl ?_
    refine Un.defer tf_body204 rfl rfl split1_bad ?_
    rintro _ _ ⟨rfl, rfl⟩
    exact Un.leftP (vs := [.slice none 0 0, .bool false]) (H2 := H) [] 7 rfl rfl Tryz.func180 rfl ⟨⟨_, rfl, LoadsTo.flat tf_flat213 (Cell.own 0 0 rfl rfl rfl)⟩, ⟨_, rfl, LoadsTo.flat tf_flat4 (Cell.own 1 0 rfl rfl rfl)⟩, trivial⟩ (⟨_, _, rfl, rfl⟩)
  rintro _ _ ⟨l22, hl23, rfl, rfl⟩
  refine AtL.lenS (l := l22) Tryz.underlying9 (.inl rfl) rfl rfl ?_
  refine AtL.assign (.inl rfl) rfl rfl ?_
  refine AtL.done ?_
  refine At.inBlock ?_
  refine At.seq ?_
  refine At.draw (es := [7, 8, 9]) (pv := [(0, .slice A10 ([] ++ [(subl s 0 l5.length, true)]).length C11), (1, str (subl s l5.length s.length)), (2, .int .i64 (l22.length : Int)), (3, str (subl (subl s l5.length s.length) 0 l22.length)), (4, .pointer (some ⟨b21, 1, none⟩)), (5, .bool true), (6, .agg #[str (subl (subl s l5.length s.length) 0 l22.length), .bool true])]) tf_mixed (by kernel_rfl) (by kernel_rfl) (by kernel_rfl) ?_
  refine ⟨⟨.inr ⟨_, rfl, rfl, .inl ⟨rfl, Do.load tf_flat213 rfl (Cell.own 6 0 rfl rfl rfl)⟩⟩, .inr ⟨_, rfl, rfl, .inl ⟨rfl, Do.move rfl⟩⟩, .inr ⟨_, rfl, rfl, .inl ⟨rfl, Do.move rfl⟩⟩, .inr ⟨_, rfl, rfl, .inl ⟨rfl, Do.sliceS (l := subl s l5.length s.length) 0 l22.length rfl (evBound_some rfl rfl) (by omega) (by omega) Tryz.underlying9 rfl⟩⟩, .inr ⟨_, rfl, rfl, .inl ⟨rfl, Do.fieldAddrB tf_fo241_1 rfl rfl⟩⟩, .inr ⟨_, rfl, rfl, .inl ⟨rfl, Do.load tf_flat4 rfl (Cell.own 0 0 rfl rfl rfl)⟩⟩, .inr ⟨_, rfl, rfl, .inl ⟨rfl, Do.build (cs := [str (subl (subl s l5.length s.length) 0 l22.length), .bool true]) tf_lay236 rfl rfl⟩⟩, trivial⟩, rfl, rfl, by kernel_rfl, _, rfl, rfl, rfl, _, Do.own1 tyPiece (l := ([(subl (subl s l5.length s.length) 0 l22.length, true)] : List (List UInt8 × Bool))) (Do.buildSlice (cs := [str (subl (subl s l5.length s.length) 0 l22.length), .bool true]) Tryz.underlying213 tf_zero236 tf_sz236 rfl rfl rfl rfl) rfl rfl (by first | decide | simp), ?_⟩
  rintro _ _ ⟨b24, s25, o26, rfl, rfl⟩
  refine ⟨[], rfl, ?_⟩
  refine ⟨⟨.inr ⟨_, rfl, rfl, .inl ⟨rfl, Do.load tf_flat213 rfl (Cell.own 7 0 rfl rfl rfl)⟩⟩, .inl (by kernel_rfl), .inl (by kernel_rfl), .inl (by kernel_rfl), .inl (by kernel_rfl), .inl (by kernel_rfl), .inl (by kernel_rfl), trivial⟩, rfl, rfl, by kernel_rfl, _, rfl, rfl, rfl, _, Do.append (l := [] ++ [(subl s 0 l5.length, true)]) (news := [(subl (subl s l5.length s.length) 0 l22.length, true)]) 3 tf_el213 rfl o13 (o26.rd (i := 0) rfl) (by first | omega | (simp only [List.length_append, List.length_cons, List.length_nil]; omega) | (simp; done) | (simp; omega)) rfl rfl, ?_⟩
  rintro _ _ ⟨A27, C28, s29, o30, rfl, rfl⟩
  refine ⟨[], rfl, ?_⟩
  refine ⟨⟨.inl (by kernel_rfl), .inl (by kernel_rfl), .inl (by kernel_rfl), .inl (by kernel_rfl), .inl (by kernel_rfl), .inl (by kernel_rfl), .inl (by kernel_rfl), trivial⟩, rfl, rfl, by kernel_rfl, _, rfl, rfl, rfl, _, Do.store (H' := s25 :: [(b21, .cells #[.int .i64 0, .bool true, .bool false] 241 (0, 0))] :: s8 :: s29 :: [(b4, .cells #[.int .i64 0, .bool true, .bool false] 241 (0, 0))] :: [(b3, .cells #[.int .i64 0, .bool true, .bool false, .int .i64 0, .bool true, .bool false, .int .i64 20, .bool false, .bool false] 241 (0, 0))] :: [(b2, .cells #[.bool false] 4 (0, 0))] :: [(b1, .cells #[.slice A27 (([] ++ [(subl s 0 l5.length, true)]) ++ [(subl (subl s l5.length s.length) 0 l22.length, true)]).length C28] 213 (0, 0))] :: H) 7 0 tf_sz213 rfl rfl rfl rfl rfl rfl rfl rfl rfl, ?_⟩
  rintro _ _ ⟨rfl, rfl⟩
  refine ⟨[], rfl, ?_⟩
  refine ⟨⟨.inl (by kernel_rfl), .inl (by kernel_rfl), .inl (by kernel_rfl), .inl (by kernel_rfl), .inl (by kernel_rfl), .inl (by kernel_rfl), .inl (by kernel_rfl), trivial⟩, by kernel_rfl, ?_⟩
  refine At.mono (E' := [(1, str (subl s l5.length s.length)), (4, .pointer (some ⟨b1, 0, none⟩)), (5, .pointer (some ⟨b2, 0, none⟩)), (10, .int .i64 (l22.length : Int)), (22, .slice (some ⟨b3, 0, none⟩) 3 3), (23, .int .i64 3), (24, .int .i64 1)]) ⟨rfl, rfl, rfl, rfl, rfl, rfl, rfl, trivial⟩ ?_
  refine At.region ?_
  refine AtL.move (.inl rfl) rfl rfl ?_
  refine AtL.move (.inl rfl) rfl rfl ?_
  refine AtL.sliceS (l := subl s l5.length s.length) l22.length (subl s l5.length s.length).length (evBound_some rfl rfl) rfl (by omega) (by omega) Tryz.underlying9 (.inl rfl) rfl rfl ?_
  refine AtL.assign (.inl rfl) rfl rfl ?_
  refine AtL.done ?_
  refine At.inBlock ?_
  refine At.region ?_
  refine AtL.add (z := 2) (.inl rfl) rfl rfl rfl (by decide) ?_
  refine AtL.move (.inl rfl) rfl rfl ?_
  refine AtL.done ?_
  refine At.again ?_
  refine At.seq ?_
  refine At.region ?_
  refine AtL.lss (.inl rfl) rfl rfl rfl ?_
  refine AtL.done ?_
  refine At.seq ?_
  refine At.condT rfl ?_
  refine At.skip ?_
  refine At.seq ?_
  refine At.block ?_
  refine At.seq ?_
  refine At.region ?_
  refine AtL.indexB 2 Tryz.underlying232 tf_sz241 (.inl rfl) rfl rfl rfl rfl rfl rfl ?_
  refine AtL.loadN (cs := [.int .i64 20, .bool false, .bool false]) tf_agg241 (.inl rfl) rfl rfl rfl (cellsOwn 5 0 6 rfl rfl rfl) ?_
  refine AtL.alloc tf_zero241 (cs := #[.int .i64 0, .bool false, .bool false]) rfl (.inl rfl) rfl ?_
  intro b38
  refine AtL.store (H' := [(b38, .cells #[.int .i64 20, .bool false, .bool false] 241 (0, 0))] :: s25 :: [(b21, .cells #[.int .i64 0, .bool true, .bool false] 241 (0, 0))] :: s8 :: s29 :: [(b4, .cells #[.int .i64 0, .bool true, .bool false] 241 (0, 0))] :: [(b3, .cells #[.int .i64 0, .bool true, .bool false, .int .i64 0, .bool true, .bool false, .int .i64 20, .bool false, .bool false] 241 (0, 0))] :: [(b2, .cells #[.bool false] 4 (0, 0))] :: [(b1, .cells #[.slice A27 (([] ++ [(subl s 0 l5.length, true)]) ++ [(subl (subl s l5.length s.length) 0 l22.length, true)]).length C28] 213 (0, 0))] :: H) 0 0 tf_sz241 (.inl rfl) rfl rfl rfl rfl rfl rfl rfl rfl rfl ?_
  refine AtL.done ?_
  refine At.seq ?_
  refine At.region ?_
  refine AtL.fieldAddrB tf_fo241_0 (.inl rfl) rfl rfl rfl ?_
  refine AtL.load tf_flat3 (.inl rfl) rfl rfl (Cell.own 0 0 rfl rfl rfl) ?_
  refine AtL.assign (.inl rfl) rfl rfl ?_
  refine AtL.done ?_
  refine At.seq ?_
  refine At.block ?_
  refine At.seq ?_
  refine At.region ?_
  refine AtL.fieldAddrB tf_fo241_2 (.inl rfl) rfl rfl rfl ?_
  refine AtL.load tf_flat4 (.inl rfl) rfl rfl (Cell.own 0 0 rfl rfl rfl) ?_
  refine AtL.move (.inl rfl) rfl rfl ?_
  refine AtL.skipped rfl rfl rfl rfl rfl rfl ?_
  refine AtL.skipped rfl rfl rfl rfl rfl rfl ?_
  refine AtL.pickF (.inl rfl) rfl rfl rfl ?_
  refine AtL.assign (.inl rfl) rfl rfl ?_
  refine AtL.done ?_
  refine At.condF rfl ?_
  refine At.seq ?_
  refine At.region ?_
  refine AtL.fieldAddrB tf_fo241_1 (.inl rfl) rfl rfl rfl ?_
  refine AtL.load tf_flat4 (.inl rfl) rfl rfl (Cell.own 0 0 rfl rfl rfl) ?_
  refine AtL.assign (.inl rfl) rfl rfl ?_
  refine AtL.done ?_
  refine At.condF rfl ?_
  refine At.seq ?_
  refine At.region ?_
  refine AtL.fieldAddrB tf_fo241_2 (.inl rfl) rfl rfl rfl ?_
  refine AtL.load tf_flat4 (.inl rfl) rfl rfl (Cell.own 0 0 rfl rfl rfl) ?_
  refine AtL.move (.inl rfl) rfl rfl ?_
  refine AtL.move (.inr ⟨_, _, _, rfl, rfl, rfl, rfl⟩) rfl rfl ?_
  refine AtL.move (.inr ⟨_, _, _, rfl, rfl, rfl, rfl⟩) rfl rfl ?_
  refine AtL.lenS (l := subl (subl s l5.length s.length) l22.length (subl s l5.length s.length).length) Tryz.underlying9 (.inr ⟨_, _, _, rfl, rfl, rfl, rfl⟩) rfl rfl ?_
  refine AtL.gtr (.inr ⟨_, _, _, rfl, rfl, rfl, rfl⟩) rfl rfl rfl ?_
  refine AtL.pickF (.inl rfl) rfl rfl rfl ?_
  refine AtL.assign (.inl rfl) rfl rfl ?_
  refine AtL.done ?_
  refine At.cond rfl ?_ ?_
  · intro hc5
    have hc5 : ((subl (subl s l5.length s.length) l22.length (subl s l5.length s.length).length).length : Int) < 20 := of_decide_eq_true hc5
    refine At.region ?_
    refine AtL.build (cs := []) tf_lay238 (.inl rfl) rfl rfl rfl ?_
    refine AtL.makeIface Tryz.underlying238 rfl (.inl rfl) rfl rfl ?_
    refine AtL.panicV (.inl rfl) rfl ?_
    refine Un.pick (H' := [(b1, .cells #[.slice A27 (([] ++ [(subl s 0 l5.length, true)]) ++ [(subl (subl s l5.length s.length) 0 l22.length, true)]).length C28] 213 (0, 0))] :: [(b2, .cells #[.bool false] 4 (0, 0))] :: [(b38, .cells #[.int .i64 20, .bool false, .bool false] 241 (0, 0))] :: s25 :: [(b21, .cells #[.int .i64 0, .bool true, .bool false] 241 (0, 0))] :: s8 :: s29 :: [(b4, .cells #[.int .i64 0, .bool true, .bool false] 241 (0, 0))] :: [(b3, .cells #[.int .i64 0, .bool true, .bool false, .int .i64 0, .bool true, .bool false, .int .i64 20, .bool false, .bool false] 241 (0, 0))] :: H) [8, 7, 0, 1, 2, 3, 4, 5, 6] 9 rfl rfl ?_
    refine Un.defer tf_body204 rfl rfl split1_bad ?_
    rintro _ _ ⟨rfl, rfl⟩
    exact Un.leftP (vs := [.slice none 0 0, .bool false]) (H2 := H) [] 9 rfl rfl Tryz.func180 rfl ⟨⟨_, rfl, LoadsTo.flat tf_flat213 (Cell.own 0 0 rfl rfl rfl)⟩, ⟨_, rfl, LoadsTo.flat tf_flat4 (Cell.own 1 0 rfl rfl rfl)⟩, trivial⟩ (⟨_, _, rfl, rfl⟩)
  · intro hc5
    have hc5 : ¬ (((subl (subl s l5.length s.length) l22.length (subl s l5.length s.length).length).length : Int) < 20) := of_decide_eq_false hc5
    refine At.skip ?_
    refine At.inBlock ?_
    refine At.seq ?_
    refine At.draw (es := [7, 8, 9]) (pv := [(0, .slice A27 (([] ++ [(subl s 0 l5.length, true)]) ++ [(subl (subl s l5.length s.length) 0 l22.length, true)]).length C28), (1, str (subl (subl s l5.length s.length) l22.length (subl s l5.length s.length).length)), (2, .int .i64 20), (3, str (subl (subl (subl s l5.length s.length) l22.length (subl s l5.length s.length).length) 0 20)), (4, .pointer (some ⟨b38, 1, none⟩)), (5, .bool false), (6, .agg #[str (subl (subl (subl s l5.length s.length) l22.length (subl s l5.length s.length).length) 0 20), .bool false])]) tf_mixed (by kernel_rfl) (by kernel_rfl) (by kernel_rfl) ?_
    refine ⟨⟨.inr ⟨_, rfl, rfl, .inl ⟨rfl, Do.load tf_flat213 rfl (Cell.own 8 0 rfl rfl rfl)⟩⟩, .inr ⟨_, rfl, rfl, .inl ⟨rfl, Do.move rfl⟩⟩, .inr ⟨_, rfl, rfl, .inl ⟨rfl, Do.move rfl⟩⟩, .inr ⟨_, rfl, rfl, .inl ⟨rfl, Do.sliceS (l := subl (subl s l5.length s.length) l22.length (subl s l5.length s.length).length) 0 20 rfl (evBound_some rfl rfl) (by omega) (by omega) Tryz.underlying9 rfl⟩⟩, .inr ⟨_, rfl, rfl, .inl ⟨rfl, Do.fieldAddrB tf_fo241_1 rfl rfl⟩⟩, .inr ⟨_, rfl, rfl, .inl ⟨rfl, Do.load tf_flat4 rfl (Cell.own 0 0 rfl rfl rfl)⟩⟩, .inr ⟨_, rfl, rfl, .inl ⟨rfl, Do.build (cs := [str (subl (subl (subl s l5.length s.length) l22.length (subl s l5.length s.length).length) 0 20), .bool false]) tf_lay236 rfl rfl⟩⟩, trivial⟩, rfl, rfl, by kernel_rfl, _, rfl, rfl, rfl, _, Do.own1 tyPiece (l := ([(subl (subl (subl s l5.length s.length) l22.length (subl s l5.length s.length).length) 0 20, false)] : List (List UInt8 × Bool))) (Do.buildSlice (cs := [str (subl (subl (subl s l5.length s.length) l22.length (subl s l5.length s.length).length) 0 20), .bool false]) Tryz.underlying213 tf_zero236 tf_sz236 rfl rfl rfl rfl) rfl rfl (by first | decide | simp), ?_⟩
    rintro _ _ ⟨b39, s40, o41, rfl, rfl⟩
    refine ⟨[], rfl, ?_⟩
    refine ⟨⟨.inr ⟨_, rfl, rfl, .inl ⟨rfl, Do.load tf_flat213 rfl (Cell.own 9 0 rfl rfl rfl)⟩⟩, .inl (by kernel_rfl), .inl (by kernel_rfl), .inl (by kernel_rfl), .inl (by kernel_rfl), .inl (by kernel_rfl), .inl (by kernel_rfl), trivial⟩, rfl, rfl, by kernel_rfl, _, rfl, rfl, rfl, _, Do.append (l := ([] ++ [(subl s 0 l5.length, true)]) ++ [(subl (subl s l5.length s.length) 0 l22.length, true)]) (news := [(subl (subl (subl s l5.length s.length) l22.length (subl s l5.length s.length).length) 0 20, false)]) 5 tf_el213 rfl o30 (o41.rd (i := 0) rfl) (by first | omega | (simp only [List.length_append, List.length_cons, List.length_nil]; omega) | (simp; done) | (simp; omega)) rfl rfl, ?_⟩
    rintro _ _ ⟨A42, C43, s44, o45, rfl, rfl⟩
    refine ⟨[], rfl, ?_⟩
    refine ⟨⟨.inl (by kernel_rfl), .inl (by kernel_rfl), .inl (by kernel_rfl), .inl (by kernel_rfl), .inl (by kernel_rfl), .inl (by kernel_rfl), .inl (by kernel_rfl), trivial⟩, rfl, rfl, by kernel_rfl, _, rfl, rfl, rfl, _, Do.store (H' := s40 :: [(b38, .cells #[.int .i64 20, .bool false, .bool false] 241 (0, 0))] :: s25 :: [(b21, .cells #[.int .i64 0, .bool true, .bool false] 241 (0, 0))] :: s8 :: s44 :: [(b4, .cells #[.int .i64 0, .bool true, .bool false] 241 (0, 0))] :: [(b3, .cells #[.int .i64 0, .bool true, .bool false, .int .i64 0, .bool true, .bool false, .int .i64 20, .bool false, .bool false] 241 (0, 0))] :: [(b2, .cells #[.bool false] 4 (0, 0))] :: [(b1, .cells #[.slice A42 ((([] ++ [(subl s 0 l5.length, true)]) ++ [(subl (subl s l5.length s.length) 0 l22.length, true)]) ++ [(subl (subl (subl s l5.length s.length) l22.length (subl s l5.length s.length).length) 0 20, false)]).length C43] 213 (0, 0))] :: H) 9 0 tf_sz213 rfl rfl rfl rfl rfl rfl rfl rfl rfl, ?_⟩
    rintro _ _ ⟨rfl, rfl⟩
    refine ⟨[], rfl, ?_⟩
    refine ⟨⟨.inl (by kernel_rfl), .inl (by kernel_rfl), .inl (by kernel_rfl), .inl (by kernel_rfl), .inl (by kernel_rfl), .inl (by kernel_rfl), .inl (by kernel_rfl), trivial⟩, by kernel_rfl, ?_⟩
    refine At.mono (E' := [(1, str (subl (subl s l5.length s.length) l22.length (subl s l5.length s.length).length)), (4, .pointer (some ⟨b1, 0, none⟩)), (5, .pointer (some ⟨b2, 0, none⟩)), (10, .int .i64 20), (22, .slice (some ⟨b3, 0, none⟩) 3 3), (23, .int .i64 3), (24, .int .i64 2)]) ⟨rfl, rfl, rfl, rfl, rfl, rfl, rfl, trivial⟩ ?_
    refine At.region ?_
    refine AtL.move (.inl rfl) rfl rfl ?_
    refine AtL.move (.inl rfl) rfl rfl ?_
    refine AtL.sliceS (l := subl (subl s l5.length s.length) l22.length (subl s l5.length s.length).length) 20 (subl (subl s l5.length s.length) l22.length (subl s l5.length s.length).length).length (evBound_some rfl rfl) rfl (by omega) (by omega) Tryz.underlying9 (.inl rfl) rfl rfl ?_
    refine AtL.assign (.inl rfl) rfl rfl ?_
    refine AtL.done ?_
    refine At.inBlock ?_
    refine At.region ?_
    refine AtL.add (z := 3) (.inl rfl) rfl rfl rfl (by decide) ?_
    refine AtL.move (.inl rfl) rfl rfl ?_
    refine AtL.done ?_
    refine At.again ?_
    refine At.seq ?_
    refine At.region ?_
    refine AtL.lss (.inl rfl) rfl rfl rfl ?_
    refine AtL.done ?_
    refine At.seq ?_
    refine At.condF rfl ?_
    refine At.exit rfl ?_
    refine At.seq ?_
    refine At.region ?_
    refine AtL.load tf_flat213 (.inl rfl) rfl rfl (Cell.own 9 0 rfl rfl rfl) ?_
    refine AtL.move (.inl rfl) rfl rfl ?_
    refine AtL.eqs (a := subl (subl (subl s l5.length s.length) l22.length (subl s l5.length s.length).length) 20 (subl (subl s l5.length s.length) l22.length (subl s l5.length s.length).length).length) (b := []) (.inl rfl) rfl rfl rfl ?_
    refine AtL.store (H' := s40 :: [(b38, .cells #[.int .i64 20, .bool false, .bool false] 241 (0, 0))] :: s25 :: [(b21, .cells #[.int .i64 0, .bool true, .bool false] 241 (0, 0))] :: s8 :: s44 :: [(b4, .cells #[.int .i64 0, .bool true, .bool false] 241 (0, 0))] :: [(b3, .cells #[.int .i64 0, .bool true, .bool false, .int .i64 0, .bool true, .bool false, .int .i64 20, .bool false, .bool false] 241 (0, 0))] :: [(b2, .cells #[.bool false] 4 (0, 0))] :: [(b1, .cells #[.slice A42 ((([] ++ [(subl s 0 l5.length, true)]) ++ [(subl (subl s l5.length s.length) 0 l22.length, true)]) ++ [(subl (subl (subl s l5.length s.length) l22.length (subl s l5.length s.length).length) 0 20, false)]).length C43] 213 (0, 0))] :: H) 9 0 tf_sz213 (.inl rfl) rfl rfl rfl rfl rfl rfl rfl rfl rfl ?_
    refine AtL.store (H' := s40 :: [(b38, .cells #[.int .i64 20, .bool false, .bool false] 241 (0, 0))] :: s25 :: [(b21, .cells #[.int .i64 0, .bool true, .bool false] 241 (0, 0))] :: s8 :: s44 :: [(b4, .cells #[.int .i64 0, .bool true, .bool false] 241 (0, 0))] :: [(b3, .cells #[.int .i64 0, .bool true, .bool false, .int .i64 0, .bool true, .bool false, .int .i64 20, .bool false, .bool false] 241 (0, 0))] :: [(b2, .cells #[.bool (decide (subl (subl (subl s l5.length s.length) l22.length (subl s l5.length s.length).length) 20 (subl (subl s l5.length s.length) l22.length (subl s l5.length s.length).length).length = []))] 4 (0, 0))] :: [(b1, .cells #[.slice A42 ((([] ++ [(subl s 0 l5.length, true)]) ++ [(subl (subl s l5.length s.length) 0 l22.length, true)]) ++ [(subl (subl (subl s l5.length s.length) l22.length (subl s l5.length s.length).length) 0 20, false)]).length C43] 213 (0, 0))] :: H) 8 0 tf_sz4 (.inl rfl) rfl rfl rfl rfl rfl rfl rfl rfl rfl ?_
    refine AtL.done ?_
    refine At.retU rfl ?_
    refine Un.pick (H' := [(b1, .cells #[.slice A42 ((([] ++ [(subl s 0 l5.length, true)]) ++ [(subl (subl s l5.length s.length) 0 l22.length, true)]) ++ [(subl (subl (subl s l5.length s.length) l22.length (subl s l5.length s.length).length) 0 20, false)]).length C43] 213 (0, 0))] :: [(b2, .cells #[.bool (decide (subl (subl (subl s l5.length s.length) l22.length (subl s l5.length s.length).length) 20 (subl (subl s l5.length s.length) l22.length (subl s l5.length s.length).length).length = []))] 4 (0, 0))] :: s40 :: [(b38, .cells #[.int .i64 20, .bool false, .bool false] 241 (0, 0))] :: s25 :: [(b21, .cells #[.int .i64 0, .bool true, .bool false] 241 (0, 0))] :: s8 :: s44 :: [(b4, .cells #[.int .i64 0, .bool true, .bool false] 241 (0, 0))] :: [(b3, .cells #[.int .i64 0, .bool true, .bool false, .int .i64 0, .bool true, .bool false, .int .i64 20, .bool false, .bool false] 241 (0, 0))] :: H) [9, 8, 0, 1, 2, 3, 4, 5, 6, 7] 10 rfl rfl ?_
    refine Un.defer tf_body204 rfl rfl split1_ret ?_
    rintro _ _ ⟨rfl, rfl⟩
    exact Un.leftP (vs := [.slice A42 ((([] ++ [(subl s 0 l5.length, true)]) ++ [(subl (subl s l5.length s.length) 0 l22.length, true)]) ++ [(subl (subl (subl s l5.length s.length) l22.length (subl s l5.length s.length).length) 0 20, false)]).length C43, .bool (decide (subl (subl (subl s l5.length s.length) l22.length (subl s l5.length s.length).length) 20 (subl (subl s l5.length s.length) l22.length (subl s l5.length s.length).length).length = []))]) (H2 := H) [] 10 rfl rfl Tryz.func180 rfl ⟨⟨_, rfl, LoadsTo.flat tf_flat213 (Cell.own 0 0 rfl rfl rfl)⟩, ⟨_, rfl, LoadsTo.flat tf_flat4 (Cell.own 1 0 rfl rfl rfl)⟩, trivial⟩ (⟨_, _, rfl, rfl⟩)
set_option maxHeartbeats 400000 in
theorem rcheck_ok {w0 : World} {base : Nat} {H : List Seg} (s : List UInt8) :
    SCalls Tryz.prog 137 [.int .i64 6, str s] w0 base (H) (fun v H' => ∃ e : Int, v = int e ∧ H' = H) := by
  refine SCalls.of_walk (n := 26) Tryz.func137 rfl rfl rfl fun cs => ?_
  refine At.seq ?_
  refine At.region ?_
  refine AtL.assign (.inl rfl) rfl rfl ?_
  refine AtL.done ?_
  refine At.seq ?_
  refine At.block ?_
  refine At.seq ?_
  refine At.region ?_
  refine AtL.move (.inl rfl) rfl rfl ?_
  refine AtL.lss (.inl rfl) rfl rfl rfl ?_
  refine AtL.move (.inl rfl) rfl rfl ?_
  refine AtL.move (.inr ⟨_, _, _, rfl, rfl, rfl, rfl⟩) rfl rfl ?_
  refine AtL.gtr (.inr ⟨_, _, _, rfl, rfl, rfl, rfl⟩) rfl rfl rfl ?_
  refine AtL.pickF (.inl rfl) rfl rfl rfl ?_
  refine AtL.assign (.inl rfl) rfl rfl ?_
  refine AtL.done ?_
  refine At.condF rfl ?_
  refine At.seq ?_
  refine At.region ?_
  refine AtL.move (.inl rfl) rfl rfl ?_
  refine AtL.lenS (l := s) Tryz.underlying9 (.inl rfl) rfl rfl ?_
  refine AtL.gtr (.inl rfl) rfl rfl rfl ?_
  refine AtL.assign (.inl rfl) rfl rfl ?_
  refine AtL.done ?_
  refine At.cond rfl ?_ ?_
  · intro hc2
    have hc2 : 65535 < (s.length : Int) := of_decide_eq_true hc2
    refine At.seq ?_
    refine At.region ?_
    refine AtL.assign (.inl rfl) rfl rfl ?_
    refine AtL.done ?_
    exact At.ret Tryz.func137 rfl rfl (⟨_, rfl, rfl⟩)
  · intro hc2
    have hc2 : ¬ (65535 < (s.length : Int)) := of_decide_eq_false hc2
    refine At.skip ?_
    refine At.inBlock ?_
    refine At.seq ?_
    refine At.seq ?_
    refine At.region ?_
    refine AtL.move (.inl rfl) rfl rfl ?_
    refine AtL.move (.inl rfl) rfl rfl ?_
    refine AtL.call tf_body180 (.inl rfl) rfl rfl (split_ok6 s (by omega)) ?_
    rintro _ _ ⟨v1, b2, rfl, hHq⟩
    obtain rfl := hHq.symm
    refine AtL.move (.inl rfl) rfl rfl ?_
    refine AtL.extract (.inl rfl) rfl rfl rfl ?_
    refine AtL.extract (.inl rfl) rfl rfl rfl ?_
    refine AtL.assign (.inl rfl) rfl rfl ?_
    refine AtL.assign (.inl rfl) rfl rfl ?_
    refine AtL.done ?_
    refine At.seq ?_
    refine At.region ?_
    refine AtL.move (.inl rfl) rfl rfl ?_
    refine AtL.not (.inl rfl) rfl rfl ?_
    refine AtL.done ?_
    refine At.cond rfl ?_ ?_
    · intro hc3
      have hc3 : b2 = false := bnot_true hc3
      refine At.seq ?_
      refine At.region ?_
      refine AtL.assign (.inl rfl) rfl rfl ?_
      refine AtL.done ?_
      exact At.ret Tryz.func137 rfl rfl (⟨_, rfl, rfl⟩)
    · intro hc3
      have hc3 : b2 = true := bnot_false hc3
      refine At.skip ?_
      refine At.seq ?_
      refine At.region ?_
      refine AtL.assign (.inl rfl) rfl rfl ?_
      refine AtL.done ?_
      exact At.ret Tryz.func137 rfl rfl (⟨_, rfl, rfl⟩)
set_option maxHeartbeats 400000 in
theorem least_ok {w0 : World} {base : Nat} {H : List Seg} (s : List UInt8) (hs : s.length ≤ 140737488355328) :
    SCalls Tryz.prog 97 [.int .i64 6, str s] w0 base (H) (fun v H' => ∃ (e : Int) (b : Bool), v = .tuple #[int e, .bool b] ∧ H' = H) := by
  refine SCalls.of_walk (n := 30) Tryz.func97 rfl rfl rfl fun cs => ?_
  refine At.seq ?_
  refine At.region ?_
  refine AtL.assign (.inl rfl) rfl rfl ?_
  refine AtL.assign (.inl rfl) rfl rfl ?_
  refine AtL.done ?_
  refine At.seq ?_
  refine At.seq ?_
  refine At.region ?_
  refine AtL.move (.inl rfl) rfl rfl ?_
  refine AtL.nei (.inl rfl) rfl rfl rfl ?_
  refine AtL.move (.inl rfl) rfl rfl ?_
  refine AtL.move (.inr ⟨_, _, _, rfl, rfl, rfl, rfl⟩) rfl rfl ?_
  refine AtL.move (.inr ⟨_, _, _, rfl, rfl, rfl, rfl⟩) rfl rfl ?_
  refine AtL.call tf_body137 (.inr ⟨_, _, _, rfl, rfl, rfl, rfl⟩) rfl rfl (rcheck_ok s) ?_
  rintro _ _ ⟨e1, rfl, hHq⟩
  obtain rfl := hHq.symm
  refine AtL.nei (.inr ⟨_, _, _, rfl, rfl, rfl, rfl⟩) rfl rfl rfl ?_
  refine AtL.pickF (.inl rfl) rfl rfl rfl ?_
  refine AtL.done ?_
  refine At.cond rfl ?_ ?_
  · intro hc1
    have hc1 : ¬ ((e1 : Int) = 0) := of_decide_eq_false (bnot_true hc1)
    refine At.seq ?_
    refine At.region ?_
    refine AtL.assign (.inl rfl) rfl rfl ?_
    refine AtL.assign (.inl rfl) rfl rfl ?_
    refine AtL.done ?_
    exact At.ret Tryz.func97 rfl rfl (⟨_, _, rfl, rfl⟩)
  · intro hc1
    have hc1 : (e1 : Int) = 0 := of_decide_eq_true (bnot_false hc1)
    refine At.skip ?_
    refine At.seq ?_
    refine At.region ?_
    refine AtL.move (.inl rfl) rfl rfl ?_
    refine AtL.bytesOf (l := s) Tryz.underlying9 Tryz.underlying22 Tryz.underlying5 (by first | omega | (simp only [List.length_append, List.length_cons, List.length_nil]; omega) | (simp; done) | (simp; omega)) (.inl rfl) rfl rfl ?_
    intro A2 C3 s4 n6 o5
    refine AtL.move (.inl rfl) rfl rfl ?_
    refine AtL.lenS (l := s) Tryz.underlying9 (.inl rfl) rfl rfl ?_
    refine AtL.sub (z := (s.length : Int) - 4) (.inl rfl) rfl rfl rfl (w64 (by omega) (by omega)) ?_
    refine AtL.call tf_body138 (.inl rfl) rfl rfl (get32_any (l := s) (o5.rd (i := 0) rfl) ((s.length : Int) - 4) (by omega) (by omega) (by omega)) ?_
    rintro _ _ ⟨n7, k8, e9, f10, rfl, rfl⟩
    refine AtL.move (.inl rfl) rfl rfl ?_
    refine AtL.extract (.inl rfl) rfl rfl rfl ?_
    refine AtL.extract (.inl rfl) rfl rfl rfl ?_
    refine AtL.extract (.inl rfl) rfl rfl rfl ?_
    refine AtL.alloc tf_zero133 (cs := #[.int .i64 0, .int .i64 0]) rfl (.inl rfl) rfl ?_
    intro b11
    refine AtL.assign (.inl rfl) rfl rfl ?_
    refine AtL.assign (.inl rfl) rfl rfl ?_
    refine AtL.store (H' := [(b11, .cells #[.int .i64 e9, .int .i64 f10] 133 (0, 0))] :: s4 :: H) 0 0 tf_sz133 (.inl rfl) rfl rfl rfl rfl rfl rfl rfl rfl rfl ?_
    refine AtL.done ?_
    refine At.seq ?_
    refine At.seq ?_
    refine At.region ?_
    refine AtL.move (.inl rfl) rfl rfl ?_
    refine AtL.geq (.inl rfl) rfl rfl rfl ?_
    refine AtL.done ?_
    refine At.cond rfl ?_ ?_
    · intro hc2
      have hc2 : 2147483648 ≤ (n7 : Int) := of_decide_eq_true hc2
      refine At.region ?_
      refine AtL.assign (.inl rfl) rfl rfl ?_
      refine AtL.done ?_
      refine At.seq ?_
      refine At.region ?_
      refine AtL.move (.inl rfl) rfl rfl ?_
      refine AtL.assign (.inl rfl) rfl rfl ?_
      refine AtL.assign (.inl rfl) rfl rfl ?_
      refine AtL.done ?_
      refine At.pick (H' := H) [] 2 rfl rfl ?_
      exact At.ret Tryz.func97 rfl rfl (⟨_, _, rfl, rfl⟩)
    · intro hc2
      have hc2 : ¬ (2147483648 ≤ (n7 : Int)) := of_decide_eq_false hc2
      refine At.skip ?_
      refine At.seq ?_
      refine At.region ?_
      refine AtL.move (.inl rfl) rfl rfl ?_
      refine AtL.assign (.inl rfl) rfl rfl ?_
      refine AtL.assign (.inl rfl) rfl rfl ?_
      refine AtL.done ?_
      refine At.pick (H' := H) [] 2 rfl rfl ?_
      exact At.ret Tryz.func97 rfl rfl (⟨_, _, rfl, rfl⟩)
theorem least_t {w0 : World} {base : Nat} {H : List Seg} {t : Int} (s : List UInt8) (hs : s.length ≤ 140737488355328) (ht : t = 6) : SCalls Tryz.prog 97 [int t, str s] w0 base H (fun v H' => ∃ (e : Int) (b : Bool), v = .tuple #[int e, .bool b] ∧ H' = H) := by
  subst ht; exact least_ok s hs
end Go.Proofs.YtlkdmbpbjhjkfaaGreatDoor
namespace Go.Proofs.YtlkdmbpbjhjkfaaGreatDoor
set_option linter.unusedVariables false
set_option linter.unusedSimpArgs false
set_option maxRecDepth 100000
def codeF (f : Int) : Int := IntKind.i64.wrap ((BitVec.ofInt IntKind.i64.bits f &&& BitVec.ofInt IntKind.i64.bits 15).toNat : Int)
def ttls (an : List (List UInt8 × Int × Int × Int × List UInt8)) : List Int := an.map fun x => max 0 x.2.2.2.1
theorem ttls_snoc (an : List (List UInt8 × Int × Int × Int × List UInt8)) (i : Nat) (h : i < an.length) : ttls (an.take (i + 1)) = ttls (an.take i) ++ [max 0 (an.getD i (([], 0, 0, 0, []) : List UInt8 × Int × Int × Int × List UInt8)).2.2.2.1] := by
  have h1 : an.take (i + 1) = an.take i ++ [an.getD i (([], 0, 0, 0, []) : List UInt8 × Int × Int × Int × List UInt8)] := by rw [List.take_succ_eq_append_getElem h]; simp [List.getD, h]
  rw [h1, ttls, ttls, List.map_append]; rfl
theorem ttls_len (an : List (List UInt8 × Int × Int × Int × List UInt8)) : (ttls an).length = an.length := by simp [ttls]
def AgeP (c : Int) (an ns : List (List UInt8 × Int × Int × Int × List UInt8)) (z : Int) : Prop :=
  ((c = 0 ∨ c = 3) ∧ ∃ s : List Int, (s = [] ∨ ∃ y, 0 ≤ y ∧ (ns = [] → y = 0) ∧ s = [y]) ∧ ((c = 3 ∨ an = []) ∨ s = []) ∧ z ∈ ttls an ++ s ∧ ∀ u ∈ ttls an ++ s, z ≤ u) ∨ ((¬ c = 0 ∧ ¬ c = 3) ∧ z = 0)
theorem AgeP.pos {c : Int} {an ns : List (List UInt8 × Int × Int × Int × List UInt8)} {z : Int} (h : AgeP c an ns z) : 0 ≤ z := by
  rcases h with ⟨_, s, hs, _, hz, _⟩ | ⟨_, rfl⟩
  · rcases List.mem_append.1 hz with h | h
    · obtain ⟨x, _, rfl⟩ := List.mem_map.1 h; omega
    · rcases hs with rfl | ⟨y, hy, _, rfl⟩
      · cases h
      · rw [List.mem_singleton.1 h]; exact hy
  · omega
theorem AgeP.zero {c : Int} {an ns : List (List UInt8 × Int × Int × Int × List UInt8)} {z : Int} (h : AgeP c an ns z) : (c = 0 ∨ c = 3) ∨ z = 0 := by
  rcases h with ⟨h, _⟩ | ⟨_, h⟩
  · exact .inl h
  · exact .inr h
theorem AgeP.le {c : Int} {an ns : List (List UInt8 × Int × Int × Int × List UInt8)} {z : Int} (h : AgeP c an ns z) : ∀ x ∈ an, z ≤ max 0 x.2.2.2.1 := by
  intro x hx
  rcases h with ⟨_, s, _, _, _, h⟩ | ⟨_, rfl⟩
  · exact h _ (List.mem_append_left _ (List.mem_map.2 ⟨x, hx, rfl⟩))
  · omega
theorem AgeP.one {x : (List UInt8 × Int × Int × Int × List UInt8)} {ns : List (List UInt8 × Int × Int × Int × List UInt8)} {z : Int} (h : AgeP 0 [x] ns z) : z = max 0 x.2.2.2.1 := by
  rcases h with ⟨_, s, _, h1, h2, _⟩ | ⟨h, _⟩
  · rcases h1 with (h1 | h1) | rfl
    · omega
    · cases h1
    · simpa [ttls] using h2
  · exact absurd rfl h.1
theorem AgeP.none {z : Int} (h : AgeP 0 [] [] z) : z = 0 := by
  rcases h with ⟨_, s, h1, _, h2, _⟩ | ⟨_, h⟩
  · rcases h1 with rfl | ⟨y, _, hy, rfl⟩
    · simp [ttls] at h2
    · rw [hy rfl] at h2; simpa [ttls] using h2
  · exact h
theorem all_getD {α : Type} {l : List α} {d : α} {P : α → Prop} (h : ∀ j, j < l.length → P (l.getD j d)) : ∀ x ∈ l, P x := by
  intro x hx
  obtain ⟨j, hj, rfl⟩ := List.mem_iff_getElem.1 hx
  have := h j hj
  rwa [show l.getD j d = l[j] by simp [List.getD, hj]] at this
set_option maxHeartbeats 400000 in
theorem code_ok {w0 : World} {base : Nat} {H : List Seg} (f : Int) :
    SCalls Tryz.prog 58 [.int .i64 f] w0 base (H) (fun v H' => v = int (codeF f) ∧ H' = H) := by
  refine SCalls.of_walk (n := 5) Tryz.func58 rfl rfl rfl fun cs => ?_
  refine At.seq ?_
  refine At.region ?_
  refine AtL.assign (.inl rfl) rfl rfl ?_
  refine AtL.done ?_
  refine At.seq ?_
  refine At.region ?_
  refine AtL.move (.inl rfl) rfl rfl ?_
  refine AtL.band (z := codeF f) (.inl rfl) rfl rfl rfl rfl ?_
  refine AtL.assign (.inl rfl) rfl rfl ?_
  refine AtL.done ?_
  exact At.ret Tryz.func58 rfl rfl (⟨rfl, rfl⟩)
set_option maxHeartbeats 400000 in
theorem soa_ok {w0 : World} {base : Nat} {H : List Seg} {id flags : Int} {Aq Aa An Ar : Option Addr} {Cq Ca Cn Cr : Nat} {qs : List (List UInt8 × Int × Int)} {an ns ar : List (List UInt8 × Int × Int × Int × List UInt8)} (hq : Rd tyQn w0 base H Aq Cq qs) (ha : Rd tyRec w0 base H Aa Ca an) (hn : Rd tyRec w0 base H An Cn ns) (hr : Rd tyRec w0 base H Ar Cr ar) (hns : ∀ x ∈ ns, x.2.2.2.2.length ≤ 140737488355328) :
    SCalls Tryz.prog 59 [.agg #[.int .i64 id, .int .i64 flags, .slice Aq qs.length Cq, .slice Aa an.length Ca, .slice An ns.length Cn, .slice Ar ar.length Cr]] w0 base (H) (fun v H' => ∃ z : Int, v = int z ∧ 0 ≤ z ∧ (ns = [] → z = 0) ∧ H' = H) := by
  have hleq := hq.le
  have hcapq := hq.cap
  have hlea := ha.le
  have hcapa := ha.cap
  have hlen := hn.le
  have hcapn := hn.cap
  have hler := hr.le
  have hcapr := hr.cap
  refine SCalls.of_walk (n := 33) Tryz.func59 rfl rfl rfl fun cs => ?_
  refine At.seq ?_
  refine At.region ?_
  refine AtL.box (cs := #[.int .i64 id, .int .i64 flags, .slice Aq qs.length Cq, .slice Aa an.length Ca, .slice An ns.length Cn, .slice Ar ar.length Cr]) rfl (.inl rfl) rfl rfl ?_
  intro b1
  refine AtL.assign (.inl rfl) rfl rfl ?_
  refine AtL.done ?_
  refine At.seq ?_
  refine At.seq ?_
  refine At.region ?_
  refine AtL.fieldAddrB tf_fo84_4 (.inl rfl) rfl rfl rfl ?_
  refine AtL.load tf_flat81 (.inl rfl) rfl rfl (Cell.own 0 0 rfl rfl rfl) ?_
  refine AtL.lenL Tryz.underlying81 (.inl rfl) rfl rfl ?_
  refine AtL.move (.inl rfl) rfl rfl ?_
  refine AtL.done ?_
  refine At.block ?_
  refine At.pick (H' := H) [] 1 rfl rfl ?_
  refine At.loop (fun (i : Nat) => [(8, .slice An ns.length Cn), (9, .int .i64 (ns.length : Int)), (10, .int .i64 (i : Int))]) (fun (i : Nat) => H) (fun (i : Nat) => i ≤ ns.length) (fun (i : Nat) => ns.length - i) 0 (Nat.zero_le _) ⟨rfl, rfl, rfl, trivial⟩ rfl ?_
  rintro i hi ihL1
  refine At.seq ?_
  refine At.region ?_
  refine AtL.lss (.inl rfl) rfl rfl rfl ?_
  refine AtL.done ?_
  refine At.seq ?_
  refine At.cond rfl ?_ ?_
  · intro hc1
    have hc1 : (i : Int) < (ns.length : Int) := of_decide_eq_true hc1
    have hlt : i < ns.length := by omega
    refine At.skip ?_
    refine At.seq ?_
    refine At.block ?_
    refine At.seq ?_
    refine At.region ?_
    refine AtL.indexL i hn Tryz.underlying81 tf_sz80 (.inl rfl) rfl rfl rfl rfl (by omega) ?_
    refine AtL.loadE (n := 0) hn (getD_some (([], 0, 0, 0, []) : List UInt8 × Int × Int × Int × List UInt8) (by omega)) rfl tf_agg80 (.inl rfl) rfl rfl ?_
    refine AtL.alloc tf_zero80 (cs := #[str [], .int .i64 0, .int .i64 0, .int .i64 0, str []]) rfl (.inl rfl) rfl ?_
    intro b2
    refine AtL.store (H' := [(b2, .cells #[str ((ns.getD i (([], 0, 0, 0, []) : List UInt8 × Int × Int × Int × List UInt8)).1), .int .i64 ((ns.getD i (([], 0, 0, 0, []) : List UInt8 × Int × Int × Int × List UInt8)).2.1), .int .i64 ((ns.getD i (([], 0, 0, 0, []) : List UInt8 × Int × Int × Int × List UInt8)).2.2.1), .int .i64 ((ns.getD i (([], 0, 0, 0, []) : List UInt8 × Int × Int × Int × List UInt8)).2.2.2.1), str ((ns.getD i (([], 0, 0, 0, []) : List UInt8 × Int × Int × Int × List UInt8)).2.2.2.2)] 80 (0, 0))] :: H) 0 0 tf_sz80 (.inl rfl) rfl rfl rfl rfl rfl rfl rfl rfl rfl ?_
    refine AtL.done ?_
    refine At.seq ?_
    refine At.region ?_
    refine AtL.fieldAddrB tf_fo80_1 (.inl rfl) rfl rfl rfl ?_
    refine AtL.load tf_flat3 (.inl rfl) rfl rfl (Cell.own 0 0 rfl rfl rfl) ?_
    refine AtL.eqi (.inl rfl) rfl rfl rfl ?_
    refine AtL.done ?_
    refine At.cond rfl ?_ ?_
    · intro hc2
      have hc2 : ((ns.getD i (([], 0, 0, 0, []) : List UInt8 × Int × Int × Int × List UInt8)).2.1) = 6 := of_decide_eq_true hc2
      refine At.seq ?_
      refine At.region ?_
      refine AtL.fieldAddrB tf_fo80_1 (.inl rfl) rfl rfl rfl ?_
      refine AtL.load tf_flat3 (.inl rfl) rfl rfl (Cell.own 0 0 rfl rfl rfl) ?_
      refine AtL.fieldAddrB tf_fo80_4 (.inl rfl) rfl rfl rfl ?_
      refine AtL.load tf_flat9 (.inl rfl) rfl rfl (Cell.own 0 0 rfl rfl rfl) ?_
      refine AtL.call tf_body97 (.inl rfl) rfl rfl (least_t ((ns.getD i (([], 0, 0, 0, []) : List UInt8 × Int × Int × Int × List UInt8)).2.2.2.2) (hns _ (getD_mem (l := ns) (i := i) (d := (([], 0, 0, 0, []) : List UInt8 × Int × Int × Int × List UInt8)) (by omega))) hc2) ?_
      rintro _ _ ⟨e3, b4, rfl, rfl⟩
      refine AtL.move (.inl rfl) rfl rfl ?_
      refine AtL.extract (.inl rfl) rfl rfl rfl ?_
      refine AtL.extract (.inl rfl) rfl rfl rfl ?_
      refine AtL.assign (.inl rfl) rfl rfl ?_
      refine AtL.assign (.inl rfl) rfl rfl ?_
      refine AtL.done ?_
      refine At.seq ?_
      refine At.seq ?_
      refine At.region ?_
      refine AtL.move (.inl rfl) rfl rfl ?_
      refine AtL.not (.inl rfl) rfl rfl ?_
      refine AtL.done ?_
      refine At.cond rfl ?_ ?_
      · intro hc3
        have hc3 : b4 = false := bnot_true hc3
        refine At.seq ?_
        refine At.region ?_
        refine AtL.assign (.inl rfl) rfl rfl ?_
        refine AtL.done ?_
        refine At.pick (H' := H) [] 1 rfl rfl ?_
        exact At.ret Tryz.func59 rfl rfl (⟨_, rfl, by omega, fun h => (by subst h; simp at hlt), rfl⟩)
      · intro hc3
        have hc3 : b4 = true := bnot_false hc3
        refine At.skip ?_
        refine At.seq ?_
        refine At.region ?_
        refine AtL.fieldAddrB tf_fo80_3 (.inl rfl) rfl rfl rfl ?_
        refine AtL.load tf_flat3 (.inl rfl) rfl rfl (Cell.own 0 0 rfl rfl rfl) ?_
        refine AtL.move (.inl rfl) rfl rfl ?_
        refine AtL.minZ (z := min ((ns.getD i (([], 0, 0, 0, []) : List UInt8 × Int × Int × Int × List UInt8)).2.2.2.1) e3) (.inl rfl) rfl rfl rfl (by omega) ?_
        refine AtL.maxZ (z := max 0 (min ((ns.getD i (([], 0, 0, 0, []) : List UInt8 × Int × Int × Int × List UInt8)).2.2.2.1) e3)) (.inl rfl) rfl rfl rfl (by omega) ?_
        refine AtL.assign (.inl rfl) rfl rfl ?_
        refine AtL.done ?_
        refine At.pick (H' := H) [] 1 rfl rfl ?_
        exact At.ret Tryz.func59 rfl rfl (⟨_, rfl, by omega, fun h => (by subst h; simp at hlt), rfl⟩)
    · intro hc2
      have hc2 : ¬ (((ns.getD i (([], 0, 0, 0, []) : List UInt8 × Int × Int × Int × List UInt8)).2.1) = 6) := of_decide_eq_false hc2
      refine At.skip ?_
      refine At.inBlock ?_
      refine At.region ?_
      refine AtL.add (z := (i : Int) + 1) (.inl rfl) rfl rfl rfl (w64 (by omega) (by omega)) ?_
      refine AtL.move (.inl rfl) rfl rfl ?_
      refine AtL.done ?_
      refine At.pick (H' := H) [] 1 rfl rfl ?_
      refine ihL1 (i + 1) (by omega) (by omega) _ ?_
      exact ⟨rfl, rfl, (by first | rfl | exact slLen (by simp []) | exact intEq (by omega) | exact intEq (by simp []) | exact slLen (by simp []; omega)), trivial⟩
  · intro hc1
    have hc1 : ¬ ((i : Int) < (ns.length : Int)) := of_decide_eq_false hc1
    refine At.exit rfl ?_
    refine At.seq ?_
    refine At.region ?_
    refine AtL.assign (.inl rfl) rfl rfl ?_
    refine AtL.done ?_
    exact At.ret Tryz.func59 rfl rfl (⟨_, rfl, by omega, fun _ => rfl, rfl⟩)
theorem min_mem {a b : Int} {l : List Int} (ha : a ∈ l) (hb : b ∈ l) : min a b ∈ l := by
  rcases Int.le_total a b with h | h
  · rw [Int.min_eq_left h]; exact ha
  · rw [Int.min_eq_right h]; exact hb
set_option maxHeartbeats 400000 in
theorem age_ok {w0 : World} {base : Nat} {H : List Seg} {id flags : Int} {Aq Aa An Ar : Option Addr} {Cq Ca Cn Cr : Nat} {qs : List (List UInt8 × Int × Int)} {an ns ar : List (List UInt8 × Int × Int × Int × List UInt8)} (hq : Rd tyQn w0 base H Aq Cq qs) (ha : Rd tyRec w0 base H Aa Ca an) (hn : Rd tyRec w0 base H An Cn ns) (hr : Rd tyRec w0 base H Ar Cr ar) (hns : ∀ x ∈ ns, x.2.2.2.2.length ≤ 140737488355328) (hal : an.length ≤ 1000000) :
    SCalls Tryz.prog 40 [.agg #[.int .i64 id, .int .i64 flags, .slice Aq qs.length Cq, .slice Aa an.length Ca, .slice An ns.length Cn, .slice Ar ar.length Cr]] w0 base (H) (fun v H' => ∃ z : Int, v = int z ∧ AgeP (codeF flags) an ns z ∧ H' = H) := by
  have hleq := hq.le
  have hcapq := hq.cap
  have hlea := ha.le
  have hcapa := ha.cap
  have hlen := hn.le
  have hcapn := hn.cap
  have hler := hr.le
  have hcapr := hr.cap
  refine SCalls.of_walk (n := 59) Tryz.func40 rfl rfl rfl fun cs => ?_
  refine At.seq ?_
  refine At.region ?_
  refine AtL.box (cs := #[.int .i64 id, .int .i64 flags, .slice Aq qs.length Cq, .slice Aa an.length Ca, .slice An ns.length Cn, .slice Ar ar.length Cr]) rfl (.inl rfl) rfl rfl ?_
  intro b1
  refine AtL.assign (.inl rfl) rfl rfl ?_
  refine AtL.done ?_
  refine At.seq ?_
  refine At.region ?_
  refine AtL.fieldAddrB tf_fo84_1 (.inl rfl) rfl rfl rfl ?_
  refine AtL.load tf_flat3 (.inl rfl) rfl rfl (Cell.own 0 0 rfl rfl rfl) ?_
  refine AtL.call tf_body58 (.inl rfl) rfl rfl (code_ok flags) ?_
  rintro _ _ ⟨rfl, rfl⟩
  refine AtL.assign (.inl rfl) rfl rfl ?_
  refine AtL.done ?_
  refine At.seq ?_
  refine At.seq ?_
  refine At.region ?_
  refine AtL.move (.inl rfl) rfl rfl ?_
  refine AtL.nei (.inl rfl) rfl rfl rfl ?_
  refine AtL.move (.inl rfl) rfl rfl ?_
  refine AtL.join 3 (E' := [(18, .bool (decide ((¬ (((codeF flags) : Int) = 0)) ∧ (¬ (((codeF flags) : Int) = 3))))), (1, .pointer (some ⟨b1, 0, none⟩)), (3, .int .i64 (codeF flags))]) (H' := [(b1, .cells #[.int .i64 id, .int .i64 flags, .slice Aq qs.length Cq, .slice Aa an.length Ca, .slice An ns.length Cn, .slice Ar ar.length Cr] 84 (0, 0))] :: H) (fun J => ?_) ?_
  · refine AtL.split (t := 15) rfl ?_ ?_
    · intro hs15
      have hs15 : ¬ (((codeF flags) : Int) = 0) := of_decide_eq_false (bnot_true hs15)
      refine AtL.move (.inr ⟨_, _, _, rfl, rfl, rfl, rfl⟩) rfl rfl ?_
      refine AtL.nei (.inr ⟨_, _, _, rfl, rfl, rfl, rfl⟩) rfl rfl rfl ?_
      refine AtL.pickT (.inl rfl) rfl rfl rfl ?_
      exact J _ (by exact ⟨(boolIs (by clear J; first | (simp [hs15]; done) | (simp_all; done) | grind)), rfl, rfl, trivial⟩)
    · intro hs15
      have hs15 : ((codeF flags) : Int) = 0 := of_decide_eq_true (bnot_false hs15)
      refine AtL.skipped rfl rfl rfl rfl rfl rfl ?_
      refine AtL.skipped rfl rfl rfl rfl rfl rfl ?_
      refine AtL.pickF (.inl rfl) rfl rfl rfl ?_
      exact J _ (by exact ⟨(boolIs (by clear J; first | (simp [hs15]; done) | (simp_all; done) | grind)), rfl, rfl, trivial⟩)
  · skip
    refine AtL.done ?_
    refine At.cond rfl ?_ ?_
    · intro hc1
      have hc1 : (¬ (((codeF flags) : Int) = 0)) ∧ (¬ (((codeF flags) : Int) = 3)) := of_decide_eq_true hc1
      refine At.seq ?_
      refine At.region ?_
      refine AtL.assign (.inl rfl) rfl rfl ?_
      refine AtL.done ?_
      refine At.pick (H' := H) [] 1 rfl rfl ?_
      exact At.ret Tryz.func40 rfl rfl (⟨_, rfl, .inr ⟨by first | assumption | omega, rfl⟩, rfl⟩)
    · intro hc1
      have hc1 : ¬ ((¬ (((codeF flags) : Int) = 0)) ∧ (¬ (((codeF flags) : Int) = 3))) := of_decide_eq_false hc1
      refine At.skip ?_
      refine At.seq ?_
      refine At.region ?_
      refine AtL.assign (.inl rfl) rfl rfl ?_
      refine AtL.done ?_
      refine At.seq ?_
      refine At.seq ?_
      refine At.region ?_
      refine AtL.fieldAddrB tf_fo84_3 (.inl rfl) rfl rfl rfl ?_
      refine AtL.load tf_flat81 (.inl rfl) rfl rfl (Cell.own 0 0 rfl rfl rfl) ?_
      refine AtL.lenL Tryz.underlying81 (.inl rfl) rfl rfl ?_
      refine AtL.move (.inl rfl) rfl rfl ?_
      refine AtL.done ?_
      refine At.block ?_
      refine At.nil ?_
      refine At.loop2 (fun (i : Nat) (x : Sl tyI 3) => [(1, .pointer (some ⟨b1, 0, none⟩)), (3, .int .i64 (codeF flags)), (4, .slice x.A x.l.length x.C), (20, .slice Aa an.length Ca), (21, .int .i64 (an.length : Int)), (22, .int .i64 (i : Int))]) (fun (i : Nat) (x : Sl tyI 3) => x.s :: [(b1, .cells #[.int .i64 id, .int .i64 flags, .slice Aq qs.length Cq, .slice Aa an.length Ca, .slice An ns.length Cn, .slice Ar ar.length Cr] 84 (0, 0))] :: H) (fun (i : Nat) (x : Sl tyI 3) => i ≤ an.length ∧ x.l = ttls (an.take i)) (fun (i : Nat) (x : Sl tyI 3) => an.length - i) 0 Sl.nil (⟨Nat.zero_le _, rfl⟩) ⟨rfl, rfl, rfl, rfl, rfl, rfl, trivial⟩ rfl ?_
      rintro i x ⟨hi, hx⟩ ihL1
      have hcap := Own.cap_le x.own
      have hle := Own.le_cap x.own
      have hxl : x.l.length = i := by rw [hx, ttls_len, List.length_take]; omega
      refine At.seq ?_
      refine At.region ?_
      refine AtL.lss (.inl rfl) rfl rfl rfl ?_
      refine AtL.done ?_
      refine At.seq ?_
      refine At.cond rfl ?_ ?_
      · intro hc2
        have hc2 : (i : Int) < (an.length : Int) := of_decide_eq_true hc2
        refine At.skip ?_
        refine At.seq ?_
        refine At.block ?_
        refine At.seq ?_
        refine At.region ?_
        refine AtL.indexL i (Rd.skip 2 ha) Tryz.underlying81 tf_sz80 (.inl rfl) rfl rfl rfl rfl (by omega) ?_
        refine AtL.loadE (n := 0) (Rd.skip 2 ha) (getD_some (([], 0, 0, 0, []) : List UInt8 × Int × Int × Int × List UInt8) (by omega)) rfl tf_agg80 (.inl rfl) rfl rfl ?_
        refine AtL.alloc tf_zero80 (cs := #[str [], .int .i64 0, .int .i64 0, .int .i64 0, str []]) rfl (.inl rfl) rfl ?_
        intro b2
        refine AtL.store (H' := [(b2, .cells #[str ((an.getD i (([], 0, 0, 0, []) : List UInt8 × Int × Int × Int × List UInt8)).1), .int .i64 ((an.getD i (([], 0, 0, 0, []) : List UInt8 × Int × Int × Int × List UInt8)).2.1), .int .i64 ((an.getD i (([], 0, 0, 0, []) : List UInt8 × Int × Int × Int × List UInt8)).2.2.1), .int .i64 ((an.getD i (([], 0, 0, 0, []) : List UInt8 × Int × Int × Int × List UInt8)).2.2.2.1), str ((an.getD i (([], 0, 0, 0, []) : List UInt8 × Int × Int × Int × List UInt8)).2.2.2.2)] 80 (0, 0))] :: x.s :: [(b1, .cells #[.int .i64 id, .int .i64 flags, .slice Aq qs.length Cq, .slice Aa an.length Ca, .slice An ns.length Cn, .slice Ar ar.length Cr] 84 (0, 0))] :: H) 0 0 tf_sz80 (.inl rfl) rfl rfl rfl rfl rfl rfl rfl rfl rfl ?_
        refine AtL.done ?_
        refine At.region ?_
        refine AtL.move (.inl rfl) rfl rfl ?_
        refine AtL.fieldAddrB tf_fo80_3 (.inl rfl) rfl rfl rfl ?_
        refine AtL.load tf_flat3 (.inl rfl) rfl rfl (Cell.own 0 0 rfl rfl rfl) ?_
        refine AtL.maxZ (z := max 0 ((an.getD i (([], 0, 0, 0, []) : List UInt8 × Int × Int × Int × List UInt8)).2.2.2.1)) (.inl rfl) rfl rfl rfl (by omega) ?_
        refine AtL.buildSlice (cs := [.int .i64 (max 0 ((an.getD i (([], 0, 0, 0, []) : List UInt8 × Int × Int × Int × List UInt8)).2.2.2.1))]) Tryz.underlying55 tf_zero3 tf_sz3 rfl rfl (.inl rfl) rfl rfl rfl ?_
        intro b3
        refine AtL.own1 tyI (l := ([max 0 ((an.getD i (([], 0, 0, 0, []) : List UInt8 × Int × Int × Int × List UInt8)).2.2.2.1)] : List Int)) rfl rfl (by first | decide | simp) ?_
        intro s4 o5
        refine AtL.append (l := x.l) (news := [max 0 ((an.getD i (([], 0, 0, 0, []) : List UInt8 × Int × Int × Int × List UInt8)).2.2.2.1)]) 2 tf_el55 rfl x.own (o5.rd (i := 0) rfl) (by first | omega | (simp only [List.length_append, List.length_cons, List.length_nil]; omega) | (simp; done) | (simp; omega)) (.inl rfl) rfl rfl rfl ?_
        intro A6 C7 s8 o9
        refine AtL.assign (.inl rfl) rfl rfl ?_
        refine AtL.done ?_
        refine At.inBlock ?_
        refine At.region ?_
        refine AtL.add (z := (i : Int) + 1) (.inl rfl) rfl rfl rfl (w64 (by omega) (by omega)) ?_
        refine AtL.move (.inl rfl) rfl rfl ?_
        refine AtL.done ?_
        refine At.pick (H' := s8 :: [(b1, .cells #[.int .i64 id, .int .i64 flags, .slice Aq qs.length Cq, .slice Aa an.length Ca, .slice An ns.length Cn, .slice Ar ar.length Cr] 84 (0, 0))] :: H) [2, 3] 4 rfl rfl ?_
        refine ihL1 (i + 1) (⟨A6, C7, x.l ++ ([max 0 ((an.getD i (([], 0, 0, 0, []) : List UInt8 × Int × Int × Int × List UInt8)).2.2.2.1)]), s8, o9⟩) (⟨by omega, by rw [ttls_snoc _ _ (by omega), ← hx]⟩) (by omega) _ ?_
        exact ⟨rfl, rfl, (by first | rfl | exact slLen (by simp []) | exact intEq (by omega) | exact intEq (by simp []) | exact slLen (by simp []; omega)), rfl, rfl, (by first | rfl | exact slLen (by simp []) | exact intEq (by omega) | exact intEq (by simp []) | exact slLen (by simp []; omega)), trivial⟩
      · intro hc2
        have hc2 : ¬ ((i : Int) < (an.length : Int)) := of_decide_eq_false hc2
        rw [List.take_of_length_le (by omega)] at hx
        refine At.exit rfl ?_
        refine At.seq ?_
        refine At.seq ?_
        refine At.region ?_
        refine AtL.move (.inl rfl) rfl rfl ?_
        refine AtL.eqi (.inl rfl) rfl rfl rfl ?_
        refine AtL.move (.inl rfl) rfl rfl ?_
        refine AtL.join 4 (E' := [(39, .bool (decide ((((codeF flags) : Int) = 3) ∨ ((x.l.length : Int) = 0)))), (1, .pointer (some ⟨b1, 0, none⟩)), (4, .slice x.A x.l.length x.C)]) (H' := x.s :: [(b1, .cells #[.int .i64 id, .int .i64 flags, .slice Aq qs.length Cq, .slice Aa an.length Ca, .slice An ns.length Cn, .slice Ar ar.length Cr] 84 (0, 0))] :: H) (fun J => ?_) ?_
        · refine AtL.split (t := 35) rfl ?_ ?_
          · intro hs35
            have hs35 : ((codeF flags) : Int) = 3 := of_decide_eq_true hs35
            refine AtL.skipped rfl rfl rfl rfl rfl rfl ?_
            refine AtL.skipped rfl rfl rfl rfl rfl rfl ?_
            refine AtL.skipped rfl rfl rfl rfl rfl rfl ?_
            refine AtL.pickT (.inl rfl) rfl rfl rfl ?_
            exact J _ (by exact ⟨(boolIs (by clear J; first | (simp [hs35]; done) | (simp_all; done) | grind)), rfl, rfl, trivial⟩)
          · intro hs35
            have hs35 : ¬ (((codeF flags) : Int) = 3) := of_decide_eq_false hs35
            refine AtL.move (.inr ⟨_, _, _, rfl, rfl, rfl, rfl⟩) rfl rfl ?_
            refine AtL.lenL Tryz.underlying55 (.inr ⟨_, _, _, rfl, rfl, rfl, rfl⟩) rfl rfl ?_
            refine AtL.eqi (.inr ⟨_, _, _, rfl, rfl, rfl, rfl⟩) rfl rfl rfl ?_
            refine AtL.pickF (.inl rfl) rfl rfl rfl ?_
            exact J _ (by exact ⟨(boolIs (by clear J; first | (simp [hs35]; done) | (simp_all; done) | grind)), rfl, rfl, trivial⟩)
        · skip
          refine AtL.done ?_
          refine At.cond rfl ?_ ?_
          · intro hc3
            have hc3 : (((codeF flags) : Int) = 3) ∨ ((x.l.length : Int) = 0) := of_decide_eq_true hc3
            refine At.region ?_
            refine AtL.move (.inl rfl) rfl rfl ?_
            refine AtL.loadN (cs := [.int .i64 id, .int .i64 flags, .slice Aq qs.length Cq, .slice Aa an.length Ca, .slice An ns.length Cn, .slice Ar ar.length Cr]) tf_agg84 (.inl rfl) rfl rfl rfl (cellsOwn 1 0 0 rfl rfl rfl) ?_
            refine AtL.call tf_body59 (.inl rfl) rfl rfl (soa_ok (id := id) (flags := flags) (qs := qs) (an := an) (ns := ns) (ar := ar) (Rd.skip 2 hq) (Rd.skip 2 ha) (Rd.skip 2 hn) (Rd.skip 2 hr) hns) ?_
            rintro _ _ ⟨zs10, rfl, hz11, hz12, rfl⟩
            refine AtL.buildSlice (cs := [.int .i64 zs10]) Tryz.underlying55 tf_zero3 tf_sz3 rfl rfl (.inl rfl) rfl rfl rfl ?_
            intro b13
            refine AtL.own1 tyI (l := ([zs10] : List Int)) rfl rfl (by first | decide | simp) ?_
            intro s14 o15
            refine AtL.append (l := x.l) (news := [zs10]) 1 tf_el55 rfl x.own (o15.rd (i := 0) rfl) (by first | omega | (simp only [List.length_append, List.length_cons, List.length_nil]; omega) | (simp; done) | (simp; omega)) (.inl rfl) rfl rfl rfl ?_
            intro A16 C17 s18 o19
            refine AtL.assign (.inl rfl) rfl rfl ?_
            refine AtL.done ?_
            have hLl : (x.l ++ [zs10]).length = x.l.length + 1 := by rw [List.length_append]; rfl
            refine At.seq ?_
            refine At.region ?_
            refine AtL.move (.inl rfl) rfl rfl ?_
            refine AtL.indexL 0 (o19.rd (i := 1) rfl) Tryz.underlying55 tf_sz3 (.inl rfl) rfl rfl rfl rfl (by omega) ?_
            refine AtL.load (v := .int .i64 ((x.l ++ [zs10]).getD 0 0)) tf_flat3 (.inl rfl) rfl rfl (Rd.cell0 (o19.rd (i := 1) rfl) (getD_some 0 (by omega)) rfl) ?_
            refine AtL.assign (.inl rfl) rfl rfl ?_
            refine AtL.done ?_
            refine At.seq ?_
            refine At.seq ?_
            refine At.region ?_
            refine AtL.move (.inl rfl) rfl rfl ?_
            refine AtL.lenL Tryz.underlying55 (.inl rfl) rfl rfl ?_
            refine AtL.move (.inl rfl) rfl rfl ?_
            refine AtL.done ?_
            refine At.block ?_
            refine At.loop2 (fun (i2 : Nat) (z2 : Int) => [(7, .int .i64 z2), (48, .slice A16 (x.l ++ [zs10]).length C17), (49, .int .i64 ((x.l ++ [zs10]).length : Int)), (50, .int .i64 (i2 : Int))]) (fun (i2 : Nat) (z2 : Int) => s14 :: s18 :: [(b1, .cells #[.int .i64 id, .int .i64 flags, .slice Aq qs.length Cq, .slice Aa an.length Ca, .slice An ns.length Cn, .slice Ar ar.length Cr] 84 (0, 0))] :: H) (fun (i2 : Nat) (z2 : Int) => i2 ≤ (x.l ++ [zs10]).length ∧ z2 ∈ (x.l ++ [zs10] : List Int) ∧ ∀ j, j < i2 → z2 ≤ (x.l ++ [zs10] : List Int).getD j 0) (fun (i2 : Nat) (z2 : Int) => (x.l ++ [zs10]).length - i2) 0 ((x.l ++ [zs10]).getD 0 0) (⟨Nat.zero_le _, getD_mem (by first | omega | simp), fun j hj => absurd hj (by omega)⟩) ⟨rfl, rfl, rfl, rfl, trivial⟩ rfl ?_
            rintro i2 z2 ⟨hi2, hz2, hm2⟩ ihL2
            refine At.seq ?_
            refine At.region ?_
            refine AtL.lss (.inl rfl) rfl rfl rfl ?_
            refine AtL.done ?_
            refine At.seq ?_
            refine At.cond rfl ?_ ?_
            · intro hc4
              have hc4 : (i2 : Int) < ((x.l ++ [zs10]).length : Int) := of_decide_eq_true hc4
              refine At.skip ?_
              refine At.seq ?_
              refine At.block ?_
              refine At.seq ?_
              refine At.region ?_
              refine AtL.indexL i2 (o19.rd (i := 1) rfl) Tryz.underlying55 tf_sz3 (.inl rfl) rfl rfl rfl rfl (by omega) ?_
              refine AtL.load (v := .int .i64 ((x.l ++ [zs10]).getD i2 0)) tf_flat3 (.inl rfl) rfl rfl (Rd.cell0 (o19.rd (i := 1) rfl) (getD_some 0 (by omega)) rfl) ?_
              refine AtL.assign (.inl rfl) rfl rfl ?_
              refine AtL.done ?_
              refine At.region ?_
              refine AtL.move (.inl rfl) rfl rfl ?_
              refine AtL.move (.inl rfl) rfl rfl ?_
              refine AtL.minZ (z := min z2 ((x.l ++ [zs10]).getD i2 0)) (.inl rfl) rfl rfl rfl (by omega) ?_
              refine AtL.assign (.inl rfl) rfl rfl ?_
              refine AtL.done ?_
              refine At.inBlock ?_
              refine At.region ?_
              refine AtL.add (z := (i2 : Int) + 1) (.inl rfl) rfl rfl rfl (w64 (by omega) (by omega)) ?_
              refine AtL.move (.inl rfl) rfl rfl ?_
              refine AtL.done ?_
              refine ihL2 (i2 + 1) (min z2 ((x.l ++ [zs10]).getD i2 0)) (⟨by omega, min_mem hz2 (getD_mem (by omega)), fun j hj => by rcases Nat.lt_or_ge j i2 with h9 | h9; have := hm2 j h9; omega; obtain rfl : j = i2 := (by omega); omega⟩) (by omega) _ ?_
              exact ⟨(by first | rfl | exact slLen (by simp []) | exact intEq (by omega) | exact intEq (by simp []) | exact slLen (by simp []; omega)), rfl, rfl, (by first | rfl | exact slLen (by simp []) | exact intEq (by omega) | exact intEq (by simp []) | exact slLen (by simp []; omega)), trivial⟩
            · intro hc4
              have hc4 : ¬ ((i2 : Int) < ((x.l ++ [zs10]).length : Int)) := of_decide_eq_false hc4
              refine At.exit rfl ?_
              refine At.seq ?_
              refine At.region ?_
              refine AtL.move (.inl rfl) rfl rfl ?_
              refine AtL.assign (.inl rfl) rfl rfl ?_
              refine AtL.done ?_
              refine At.pick (H' := H) [] 3 rfl rfl ?_
              exact At.ret Tryz.func40 rfl rfl (⟨_, rfl, .inl ⟨by omega, [zs10], .inr ⟨zs10, hz11, hz12, rfl⟩, .inl (hc3.imp (fun h8 => h8) fun h9 => List.eq_nil_of_length_eq_zero (by omega)), hx ▸ hz2, by rw [← hx]; exact all_getD (d := 0) fun j hj => hm2 j (by omega)⟩, rfl⟩)
          · intro hc3
            have hc3 : ¬ ((((codeF flags) : Int) = 3) ∨ ((x.l.length : Int) = 0)) := of_decide_eq_false hc3
            refine At.skip ?_
            refine At.seq ?_
            refine At.region ?_
            refine AtL.move (.inl rfl) rfl rfl ?_
            refine AtL.indexL 0 (x.own.rd (i := 0) rfl) Tryz.underlying55 tf_sz3 (.inl rfl) rfl rfl rfl rfl (by omega) ?_
            refine AtL.load (v := .int .i64 (x.l.getD 0 0)) tf_flat3 (.inl rfl) rfl rfl (Rd.cell0 (x.own.rd (i := 0) rfl) (getD_some 0 (by omega)) rfl) ?_
            refine AtL.assign (.inl rfl) rfl rfl ?_
            refine AtL.done ?_
            refine At.seq ?_
            refine At.seq ?_
            refine At.region ?_
            refine AtL.move (.inl rfl) rfl rfl ?_
            refine AtL.lenL Tryz.underlying55 (.inl rfl) rfl rfl ?_
            refine AtL.move (.inl rfl) rfl rfl ?_
            refine AtL.done ?_
            refine At.block ?_
            refine At.loop2 (fun (i2 : Nat) (z2 : Int) => [(7, .int .i64 z2), (48, .slice x.A x.l.length x.C), (49, .int .i64 (x.l.length : Int)), (50, .int .i64 (i2 : Int))]) (fun (i2 : Nat) (z2 : Int) => x.s :: [(b1, .cells #[.int .i64 id, .int .i64 flags, .slice Aq qs.length Cq, .slice Aa an.length Ca, .slice An ns.length Cn, .slice Ar ar.length Cr] 84 (0, 0))] :: H) (fun (i2 : Nat) (z2 : Int) => i2 ≤ (x.l).length ∧ z2 ∈ (x.l : List Int) ∧ ∀ j, j < i2 → z2 ≤ (x.l : List Int).getD j 0) (fun (i2 : Nat) (z2 : Int) => (x.l).length - i2) 0 (x.l.getD 0 0) (⟨Nat.zero_le _, getD_mem (by first | omega | simp), fun j hj => absurd hj (by omega)⟩) ⟨rfl, rfl, rfl, rfl, trivial⟩ rfl ?_
            rintro i2 z2 ⟨hi2, hz2, hm2⟩ ihL2
            refine At.seq ?_
            refine At.region ?_
            refine AtL.lss (.inl rfl) rfl rfl rfl ?_
            refine AtL.done ?_
            refine At.seq ?_
            refine At.cond rfl ?_ ?_
            · intro hc4
              have hc4 : (i2 : Int) < (x.l.length : Int) := of_decide_eq_true hc4
              refine At.skip ?_
              refine At.seq ?_
              refine At.block ?_
              refine At.seq ?_
              refine At.region ?_
              refine AtL.indexL i2 (x.own.rd (i := 0) rfl) Tryz.underlying55 tf_sz3 (.inl rfl) rfl rfl rfl rfl (by omega) ?_
              refine AtL.load (v := .int .i64 (x.l.getD i2 0)) tf_flat3 (.inl rfl) rfl rfl (Rd.cell0 (x.own.rd (i := 0) rfl) (getD_some 0 (by omega)) rfl) ?_
              refine AtL.assign (.inl rfl) rfl rfl ?_
              refine AtL.done ?_
              refine At.region ?_
              refine AtL.move (.inl rfl) rfl rfl ?_
              refine AtL.move (.inl rfl) rfl rfl ?_
              refine AtL.minZ (z := min z2 (x.l.getD i2 0)) (.inl rfl) rfl rfl rfl (by omega) ?_
              refine AtL.assign (.inl rfl) rfl rfl ?_
              refine AtL.done ?_
              refine At.inBlock ?_
              refine At.region ?_
              refine AtL.add (z := (i2 : Int) + 1) (.inl rfl) rfl rfl rfl (w64 (by omega) (by omega)) ?_
              refine AtL.move (.inl rfl) rfl rfl ?_
              refine AtL.done ?_
              refine ihL2 (i2 + 1) (min z2 (x.l.getD i2 0)) (⟨by omega, min_mem hz2 (getD_mem (by omega)), fun j hj => by rcases Nat.lt_or_ge j i2 with h9 | h9; have := hm2 j h9; omega; obtain rfl : j = i2 := (by omega); omega⟩) (by omega) _ ?_
              exact ⟨(by first | rfl | exact slLen (by simp []) | exact intEq (by omega) | exact intEq (by simp []) | exact slLen (by simp []; omega)), rfl, rfl, (by first | rfl | exact slLen (by simp []) | exact intEq (by omega) | exact intEq (by simp []) | exact slLen (by simp []; omega)), trivial⟩
            · intro hc4
              have hc4 : ¬ ((i2 : Int) < (x.l.length : Int)) := of_decide_eq_false hc4
              refine At.exit rfl ?_
              refine At.seq ?_
              refine At.region ?_
              refine AtL.move (.inl rfl) rfl rfl ?_
              refine AtL.assign (.inl rfl) rfl rfl ?_
              refine AtL.done ?_
              refine At.pick (H' := H) [] 2 rfl rfl ?_
              exact At.ret Tryz.func40 rfl rfl (⟨_, rfl, .inl ⟨by omega, [], .inl rfl, .inr rfl, by rw [List.append_nil, ← hx]; exact hz2, by rw [List.append_nil, ← hx]; exact all_getD (d := 0) fun j hj => hm2 j (by omega)⟩, rfl⟩)
end Go.Proofs.YtlkdmbpbjhjkfaaGreatDoor
namespace Go.Proofs.YtlkdmbpbjhjkfaaGreatDoor
set_option linter.unusedVariables false
set_option linter.unusedSimpArgs false
set_option maxRecDepth 100000
def F516 : List Fld := [(CTN16, MED16), (CCN16, ([109, 97, 120, 45, 97, 103, 101, 61, 53] : List UInt8))]
def R516 : RespV := ⟨200, F516, List.replicate 12 0, true⟩
def a12B : List UInt8 := respB R516
theorem F5_eq : ansFs 5 = F516 := by decide +kernel
theorem ans12 : ansF (List.replicate 12 0) 5 true = (a12B, 0) ∧ readF a12B 0 = (⟨200, F516, List.replicate 12 0, true⟩, (a12B.length : Int), 0) := by
  have h := ans_good (b := List.replicate 12 0) (age := 5) (kp := true) (by decide) (by decide) (by decide) (by decide)
  rw [F5_eq] at h
  exact h
theorem ans11 : ansF (List.replicate 11 0) 5 true = ([], 4) := ans_4 (by decide)
theorem a12B_len : a12B.length ≤ 4294967280 := by decide +kernel
theorem code0 : codeF 0 = 0 := by decide +kernel
theorem eqField_run (x y : Fld) (ox oy : Operand) (w : World) : (do eqGuard .eql 78 ox oy (tyField.val x) (tyField.val y); binOp .eql 78 (tyField.val x) (tyField.val y) : Sem Value).run Tryz.prog w = .ok (.bool (decide (x = y))) w := by
  obtain ⟨a, c⟩ := x
  obtain ⟨d, e⟩ := y
  have hf : (Tryz.prog.fieldsOf 78).toList = [{ name := "Name", type := 9, offset := 0, embedded := false, tag := "", pkgPath := "", byteOffset := 0 }, { name := "Value", type := 9, offset := 1, embedded := false, tag := "", pkgPath := "", byteOffset := 16 }] := by kernel_rfl
  have hs : ∀ (l m : List UInt8) w, (Op.equalIn 9999 9 (str l) (str m)).run Tryz.prog w = .ok (decide (l = m)) w := fun l m w => by
    rw [str, str, run_equalIn_string w 9998 9 _ _ Tryz.underlying9, ba_toList, ba_toList, beq_dec]
  have p0 : ∀ (l m : List UInt8) w, (part 9 #[str l, str m] 0).run Tryz.prog w = .ok (str l) w := fun l m w => by simp [part, Tryz.isAgg9]
  have p1 : ∀ (l m : List UInt8) w, (part 9 #[str l, str m] 1).run Tryz.prog w = .ok (str m) w := fun l m w => by simp [part, Tryz.isAgg9]
  have he : Tryz.prog.eqGuardType Tryz.prog.depth 78 = false := by kernel_rfl
  have hu : Tryz.prog.underlying 78 = some (.struct (Tryz.prog.fieldsOf 78)) := by kernel_rfl
  have hst : Tryz.prog.stoodInHeld 78 = false := by kernel_rfl
  simp only [tyField, Sem.run_bind, run_eqGuard_agg w .eql 78 ox oy _ _ he, Result.andThen_ok, run_eql_struct, run_equalIn_agg w 9999 78 _ _ hu hst, hf, Op.eqFields]
  by_cases h1 : a = d
  · by_cases h2 : c = e
    · simp [p0, p1, hs, h1, h2]
    · simp [p0, p1, hs, h1, h2]
  · simp [p0, p1, hs, h1]
set_option maxHeartbeats 1000000 in
theorem dohknown_ok {w0 : World} {base : Nat} {H : List Seg} (T : Tabs w0 base) (ET : ErrTab w0 base) (T10 : Tab10 w0 base) :
    SCalls Tryz.prog 10 [] w0 base (H) (fun v H' => v = .bool true ∧ H' = H) := by
  refine SCalls.of_walk (n := 159) Tryz.func10 rfl rfl rfl fun cs => ?_
  refine At.seq ?_
  refine At.region ?_
  refine AtL.assign (.inl rfl) rfl rfl ?_
  refine AtL.done ?_
  refine At.seq ?_
  refine At.region ?_
  refine AtL.call tf_body35 (.inl rfl) rfl rfl ((path_ok (t := [47, 97]) (by decide) T).mono (fun v H' h => by rw [show Lib.cut [47, 97] [63] = ([47, 97], [], false) by decide +kernel] at h; exact h)) ?_
  rintro _ _ ⟨rfl, hHq⟩
  obtain rfl := hHq.symm
  refine AtL.move (.inl rfl) rfl rfl ?_
  refine AtL.extract (.inl rfl) rfl rfl rfl ?_
  refine AtL.extract (.inl rfl) rfl rfl rfl ?_
  refine AtL.assign (.inl rfl) rfl rfl ?_
  refine AtL.assign (.inl rfl) rfl rfl ?_
  refine AtL.done ?_
  refine At.seq ?_
  refine At.region ?_
  refine AtL.call tf_body35 (.inl rfl) rfl rfl ((path_ok (t := [63]) (by decide) T).mono (fun v H' h => by rw [show Lib.cut [63] [63] = ([], [], true) by decide +kernel] at h; exact h)) ?_
  rintro _ _ ⟨rfl, hHq⟩
  obtain rfl := hHq.symm
  refine AtL.move (.inl rfl) rfl rfl ?_
  refine AtL.extract (.inl rfl) rfl rfl rfl ?_
  refine AtL.extract (.inl rfl) rfl rfl rfl ?_
  refine AtL.assign (.inl rfl) rfl rfl ?_
  refine AtL.assign (.inl rfl) rfl rfl ?_
  refine AtL.done ?_
  refine At.seq ?_
  refine At.region ?_
  refine AtL.call tf_body37 (.inl rfl) rfl rfl (get16k (m := GETM) (m' := [71, 69, 84]) (t := DNSQ) rfl) ?_
  rintro _ _ ⟨⟨A1, C2, l3, s4, o5⟩, hx6, rfl, rfl⟩
  obtain rfl : HO16 = l3 := hx6.symm
  refine AtL.call tf_body36 (.inl rfl) rfl rfl (ask_kn (Ab := none) (Cb := 0) (body := []) (m := GETM) (t := DNSQ) (fs := HO16) (askK1 HO16) (o5.rd (i := 0) rfl) Rd.nil_ (by decide) (by decide) (by decide) (by decide) T) ?_
  rintro _ _ ⟨⟨A7, C8, l9, s10, o11⟩, hx12, rfl, rfl⟩
  obtain rfl : ([] : List UInt8) = l9 := hx12.symm
  refine AtL.move (.inl rfl) rfl rfl ?_
  refine AtL.extract (.inl rfl) rfl rfl rfl ?_
  refine AtL.extract (.inl rfl) rfl rfl rfl ?_
  refine AtL.assign (.inl rfl) rfl rfl ?_
  refine AtL.assign (.inl rfl) rfl rfl ?_
  refine AtL.done ?_
  refine At.seq ?_
  refine At.region ?_
  refine AtL.call tf_body37 (.inl rfl) rfl rfl (get16k (m := [80, 85, 84]) (m' := [80, 85, 84]) (t := DNSQ) rfl) ?_
  rintro _ _ ⟨⟨A13, C14, l15, s16, o17⟩, hx18, rfl, rfl⟩
  obtain rfl : HO16 = l15 := hx18.symm
  refine AtL.call tf_body36 (.inl rfl) rfl rfl (ask_kn (Ab := none) (Cb := 0) (body := []) (m := [80, 85, 84]) (t := DNSQ) (fs := HO16) (askK2 HO16) (o17.rd (i := 0) rfl) Rd.nil_ (by decide) (by decide) (by decide) (by decide) T) ?_
  rintro _ _ ⟨⟨A19, C20, l21, s22, o23⟩, hx24, rfl, rfl⟩
  obtain rfl : ([] : List UInt8) = l21 := hx24.symm
  refine AtL.move (.inl rfl) rfl rfl ?_
  refine AtL.extract (.inl rfl) rfl rfl rfl ?_
  refine AtL.extract (.inl rfl) rfl rfl rfl ?_
  refine AtL.assign (.inl rfl) rfl rfl ?_
  refine AtL.assign (.inl rfl) rfl rfl ?_
  refine AtL.done ?_
  refine At.seq ?_
  refine At.region ?_
  refine AtL.call tf_body37 (.inl rfl) rfl rfl (get16k (m := GETM) (m' := [71, 69, 84]) (t := QAA) rfl) ?_
  rintro _ _ ⟨⟨A25, C26, l27, s28, o29⟩, hx30, rfl, rfl⟩
  obtain rfl : HO16 = l27 := hx30.symm
  refine AtL.call tf_body36 (.inl rfl) rfl rfl (ask_kn (Ab := none) (Cb := 0) (body := []) (m := GETM) (t := QAA) (fs := HO16) (askK3 HO16) (o29.rd (i := 0) rfl) Rd.nil_ (by decide) (by decide) (by decide) (by decide) T) ?_
  rintro _ _ ⟨⟨A31, C32, l33, s34, o35⟩, hx36, rfl, rfl⟩
  obtain rfl : ([] : List UInt8) = l33 := hx36.symm
  refine AtL.move (.inl rfl) rfl rfl ?_
  refine AtL.extract (.inl rfl) rfl rfl rfl ?_
  refine AtL.extract (.inl rfl) rfl rfl rfl ?_
  refine AtL.assign (.inl rfl) rfl rfl ?_
  refine AtL.assign (.inl rfl) rfl rfl ?_
  refine AtL.done ?_
  refine At.seq ?_
  refine At.joinQ (fun E2 H2 => Sub [(1, str [47, 97]), (2, str []), (3, str []), (4, str []), (6, .int .i64 400), (8, .int .i64 405), (10, .int .i64 400), (12, .int .i64 415)] E2 ∧ H2 = s34 :: s28 :: s22 :: s16 :: s10 :: s4 :: H) (fun J => ?_) ?_
  · skip
    refine At.drawM (n := 3) (fs := [0, 1]) (pv := []) tf_mixed (by kernel_rfl) (by kernel_rfl) (by kernel_rfl) ?_
    refine ⟨trivial, List.cons_ne_nil _ _, by kernel_rfl, by kernel_rfl, ⟨_, rfl, rfl, rfl, _, Do.call tf_body37 rfl (get16k (m := POSTM) (m' := [80, 79, 83, 84]) (t := DNSQ) rfl), ?_⟩, ⟨_, rfl, rfl, rfl, _, Do.makeSlice (n := 12) (c := 12) tf_el22 (by decide) rfl rfl (by omega) (by omega), ?_⟩, trivial⟩
    · skip
      rintro _ _ ⟨⟨A53, C54, l55, s56, o57⟩, hx58, rfl, rfl⟩
      obtain rfl : HO16 = l55 := hx58.symm
      refine ⟨[], [1], rfl, ?_⟩
      refine ⟨trivial, List.cons_ne_nil _ _, by kernel_rfl, by kernel_rfl, ⟨_, rfl, rfl, rfl, _, Do.makeSlice (n := 12) (c := 12) tf_el22 (by decide) rfl rfl (by omega) (by omega), ?_⟩, trivial⟩
      rintro _ _ ⟨A63, s64, o65, q66, rfl, rfl⟩
      refine ⟨[], [2], rfl, ?_⟩
      refine ⟨trivial, List.cons_ne_nil _ _, by kernel_rfl, by kernel_rfl, ⟨_, rfl, rfl, rfl, _, Do.call tf_body36 rfl (ask_kn (m := POSTM) (t := DNSQ) (fs := HO16) (askK4 (List.replicate 12 (0 : UInt8))) (o57.rd (i := 1) rfl) (o65.rd (i := 0) rfl) (by decide) (by decide) (by decide) (by decide) T), ?_⟩, trivial⟩
      rintro _ _ ⟨⟨A67, C68, l69, s70, o71⟩, hx72, rfl, rfl⟩
      obtain rfl : ([] : List UInt8) = l69 := hx72.symm
      refine ⟨[(3, .tuple #[.slice A67 ([] : List UInt8).length C68, .int .i64 415]), (4, .slice A67 ([] : List UInt8).length C68), (5, .int .i64 415), (6, .slice A67 ([] : List UInt8).length C68), (7, .int .i64 415)], [], rfl, ?_⟩
      refine ⟨⟨.inr ⟨_, rfl, rfl, .inl ⟨rfl, Do.move rfl⟩⟩, .inr ⟨_, rfl, rfl, .inl ⟨rfl, Do.extract rfl rfl⟩⟩, .inr ⟨_, rfl, rfl, .inl ⟨rfl, Do.extract rfl rfl⟩⟩, .inr ⟨_, rfl, rfl, .inl ⟨rfl, Do.assign rfl⟩⟩, .inr ⟨_, rfl, rfl, .inl ⟨rfl, Do.assign rfl⟩⟩, trivial⟩, by kernel_rfl, ?_⟩
      refine At.pick (H' := s34 :: s28 :: s22 :: s16 :: s10 :: s4 :: H) [3, 4, 5, 6, 7, 8] 9 rfl rfl ?_
      exact J _ _ ⟨⟨rfl, rfl, rfl, rfl, rfl, rfl, rfl, rfl, trivial⟩, rfl⟩
    · skip
      rintro _ _ ⟨A59, s60, o61, q62, rfl, rfl⟩
      refine ⟨[], [0], rfl, ?_⟩
      refine ⟨trivial, List.cons_ne_nil _ _, by kernel_rfl, by kernel_rfl, ⟨_, rfl, rfl, rfl, _, Do.call tf_body37 rfl (get16k (m := POSTM) (m' := [80, 79, 83, 84]) (t := DNSQ) rfl), ?_⟩, trivial⟩
      rintro _ _ ⟨⟨A73, C74, l75, s76, o77⟩, hx78, rfl, rfl⟩
      obtain rfl : HO16 = l75 := hx78.symm
      refine ⟨[], [2], rfl, ?_⟩
      refine ⟨trivial, List.cons_ne_nil _ _, by kernel_rfl, by kernel_rfl, ⟨_, rfl, rfl, rfl, _, Do.call tf_body36 rfl (ask_kn (m := POSTM) (t := DNSQ) (fs := HO16) (askK4 (List.replicate 12 (0 : UInt8))) (o77.rd (i := 0) rfl) (o61.rd (i := 1) rfl) (by decide) (by decide) (by decide) (by decide) T), ?_⟩, trivial⟩
      rintro _ _ ⟨⟨A79, C80, l81, s82, o83⟩, hx84, rfl, rfl⟩
      obtain rfl : ([] : List UInt8) = l81 := hx84.symm
      refine ⟨[(3, .tuple #[.slice A79 ([] : List UInt8).length C80, .int .i64 415]), (4, .slice A79 ([] : List UInt8).length C80), (5, .int .i64 415), (6, .slice A79 ([] : List UInt8).length C80), (7, .int .i64 415)], [], rfl, ?_⟩
      refine ⟨⟨.inr ⟨_, rfl, rfl, .inl ⟨rfl, Do.move rfl⟩⟩, .inr ⟨_, rfl, rfl, .inl ⟨rfl, Do.extract rfl rfl⟩⟩, .inr ⟨_, rfl, rfl, .inl ⟨rfl, Do.extract rfl rfl⟩⟩, .inr ⟨_, rfl, rfl, .inl ⟨rfl, Do.assign rfl⟩⟩, .inr ⟨_, rfl, rfl, .inl ⟨rfl, Do.assign rfl⟩⟩, trivial⟩, by kernel_rfl, ?_⟩
      refine At.pick (H' := s34 :: s28 :: s22 :: s16 :: s10 :: s4 :: H) [3, 4, 5, 6, 7, 8] 9 rfl rfl ?_
      exact J _ _ ⟨⟨rfl, rfl, rfl, rfl, rfl, rfl, rfl, rfl, trivial⟩, rfl⟩
  · skip
    rintro E2 H2 ⟨hsub, rfl⟩
    refine At.mono hsub ?_
    clear hsub
    refine At.seq ?_
    refine At.joinQ (fun E2 H2 => Sub [(1, str [47, 97]), (2, str []), (3, str []), (4, str []), (6, .int .i64 400), (8, .int .i64 405), (10, .int .i64 400), (12, .int .i64 415), (14, .int .i64 400)] E2 ∧ H2 = s34 :: s28 :: s22 :: s16 :: s10 :: s4 :: H) (fun J => ?_) ?_
    · skip
      refine At.drawM (n := 3) (fs := [0, 1]) (pv := []) tf_mixed (by kernel_rfl) (by kernel_rfl) (by kernel_rfl) ?_
      refine ⟨trivial, List.cons_ne_nil _ _, by kernel_rfl, by kernel_rfl, ⟨_, rfl, rfl, rfl, _, Do.call tf_body38 rfl post16_ok, ?_⟩, ⟨_, rfl, rfl, rfl, _, Do.makeSlice (n := 11) (c := 11) tf_el22 (by decide) rfl rfl (by omega) (by omega), ?_⟩, trivial⟩
      · skip
        rintro _ _ ⟨⟨A101, C102, l103, s104, o105⟩, hx106, rfl, rfl⟩
        obtain rfl : PF16 = l103 := hx106.symm
        refine ⟨[], [1], rfl, ?_⟩
        refine ⟨trivial, List.cons_ne_nil _ _, by kernel_rfl, by kernel_rfl, ⟨_, rfl, rfl, rfl, _, Do.makeSlice (n := 11) (c := 11) tf_el22 (by decide) rfl rfl (by omega) (by omega), ?_⟩, trivial⟩
        rintro _ _ ⟨A111, s112, o113, q114, rfl, rfl⟩
        refine ⟨[], [2], rfl, ?_⟩
        refine ⟨trivial, List.cons_ne_nil _ _, by kernel_rfl, by kernel_rfl, ⟨_, rfl, rfl, rfl, _, Do.call tf_body36 rfl (ask_kn (m := POSTM) (t := DNSQ) (fs := PF16) (askK5 (by decide)) (o105.rd (i := 1) rfl) (o113.rd (i := 0) rfl) (by decide) (by decide) (by decide) (by decide) T), ?_⟩, trivial⟩
        rintro _ _ ⟨⟨A115, C116, l117, s118, o119⟩, hx120, rfl, rfl⟩
        obtain rfl : ([] : List UInt8) = l117 := hx120.symm
        refine ⟨[(3, .tuple #[.slice A115 ([] : List UInt8).length C116, .int .i64 400]), (4, .slice A115 ([] : List UInt8).length C116), (5, .int .i64 400), (6, .slice A115 ([] : List UInt8).length C116), (7, .int .i64 400)], [], rfl, ?_⟩
        refine ⟨⟨.inr ⟨_, rfl, rfl, .inl ⟨rfl, Do.move rfl⟩⟩, .inr ⟨_, rfl, rfl, .inl ⟨rfl, Do.extract rfl rfl⟩⟩, .inr ⟨_, rfl, rfl, .inl ⟨rfl, Do.extract rfl rfl⟩⟩, .inr ⟨_, rfl, rfl, .inl ⟨rfl, Do.assign rfl⟩⟩, .inr ⟨_, rfl, rfl, .inl ⟨rfl, Do.assign rfl⟩⟩, trivial⟩, by kernel_rfl, ?_⟩
        refine At.pick (H' := s34 :: s28 :: s22 :: s16 :: s10 :: s4 :: H) [3, 4, 5, 6, 7, 8] 9 rfl rfl ?_
        exact J _ _ ⟨⟨rfl, rfl, rfl, rfl, rfl, rfl, rfl, rfl, rfl, trivial⟩, rfl⟩
      · skip
        rintro _ _ ⟨A107, s108, o109, q110, rfl, rfl⟩
        refine ⟨[], [0], rfl, ?_⟩
        refine ⟨trivial, List.cons_ne_nil _ _, by kernel_rfl, by kernel_rfl, ⟨_, rfl, rfl, rfl, _, Do.call tf_body38 rfl post16_ok, ?_⟩, trivial⟩
        rintro _ _ ⟨⟨A121, C122, l123, s124, o125⟩, hx126, rfl, rfl⟩
        obtain rfl : PF16 = l123 := hx126.symm
        refine ⟨[], [2], rfl, ?_⟩
        refine ⟨trivial, List.cons_ne_nil _ _, by kernel_rfl, by kernel_rfl, ⟨_, rfl, rfl, rfl, _, Do.call tf_body36 rfl (ask_kn (m := POSTM) (t := DNSQ) (fs := PF16) (askK5 (by decide)) (o125.rd (i := 0) rfl) (o109.rd (i := 1) rfl) (by decide) (by decide) (by decide) (by decide) T), ?_⟩, trivial⟩
        rintro _ _ ⟨⟨A127, C128, l129, s130, o131⟩, hx132, rfl, rfl⟩
        obtain rfl : ([] : List UInt8) = l129 := hx132.symm
        refine ⟨[(3, .tuple #[.slice A127 ([] : List UInt8).length C128, .int .i64 400]), (4, .slice A127 ([] : List UInt8).length C128), (5, .int .i64 400), (6, .slice A127 ([] : List UInt8).length C128), (7, .int .i64 400)], [], rfl, ?_⟩
        refine ⟨⟨.inr ⟨_, rfl, rfl, .inl ⟨rfl, Do.move rfl⟩⟩, .inr ⟨_, rfl, rfl, .inl ⟨rfl, Do.extract rfl rfl⟩⟩, .inr ⟨_, rfl, rfl, .inl ⟨rfl, Do.extract rfl rfl⟩⟩, .inr ⟨_, rfl, rfl, .inl ⟨rfl, Do.assign rfl⟩⟩, .inr ⟨_, rfl, rfl, .inl ⟨rfl, Do.assign rfl⟩⟩, trivial⟩, by kernel_rfl, ?_⟩
        refine At.pick (H' := s34 :: s28 :: s22 :: s16 :: s10 :: s4 :: H) [3, 4, 5, 6, 7, 8] 9 rfl rfl ?_
        exact J _ _ ⟨⟨rfl, rfl, rfl, rfl, rfl, rfl, rfl, rfl, rfl, trivial⟩, rfl⟩
    · skip
      rintro E2 H2 ⟨hsub, rfl⟩
      refine At.mono hsub ?_
      clear hsub
      refine At.seq ?_
      refine At.region ?_
      refine AtL.makeSlice (n := 12) (c := 12) tf_el22 (by decide) (.inl rfl) rfl rfl rfl (by omega) (by omega) ?_
      intro A133 s134 o135 q136
      refine AtL.call tf_body14 (.inl rfl) rfl rfl (answer_kn (b := List.replicate 12 (0 : UInt8)) ans12.1 (o135.rd (i := 0) rfl) (by simp) T10) ?_
      rintro _ _ ⟨⟨A137, C138, l139, s140, o141⟩, hx142, rfl, rfl⟩
      obtain rfl : (a12B : List UInt8) = l139 := hx142.symm
      refine AtL.move (.inl rfl) rfl rfl ?_
      refine AtL.extract (.inl rfl) rfl rfl rfl ?_
      refine AtL.extract (.inl rfl) rfl rfl rfl ?_
      refine AtL.assign (.inl rfl) rfl rfl ?_
      refine AtL.assign (.inl rfl) rfl rfl ?_
      refine AtL.done ?_
      refine At.seq ?_
      refine At.region ?_
      refine AtL.makeSlice (n := 11) (c := 11) tf_el22 (by decide) (.inl rfl) rfl rfl rfl (by omega) (by omega) ?_
      intro A143 s144 o145 q146
      refine AtL.call tf_body14 (.inl rfl) rfl rfl (answer_kn (b := List.replicate 11 (0 : UInt8)) ans11 (o145.rd (i := 0) rfl) (by simp) T10) ?_
      rintro _ _ ⟨⟨A147, C148, l149, s150, o151⟩, hx152, rfl, rfl⟩
      obtain rfl : ([] : List UInt8) = l149 := hx152.symm
      refine AtL.move (.inl rfl) rfl rfl ?_
      refine AtL.extract (.inl rfl) rfl rfl rfl ?_
      refine AtL.extract (.inl rfl) rfl rfl rfl ?_
      refine AtL.assign (.inl rfl) rfl rfl ?_
      refine AtL.assign (.inl rfl) rfl rfl ?_
      refine AtL.done ?_
      refine At.seq ?_
      refine At.region ?_
      refine AtL.move (.inl rfl) rfl rfl ?_
      refine AtL.call tf_body39 (.inl rfl) rfl rfl (read_kn (b := (a12B : List UInt8)) ans12.2 (o141.rd (i := 2) rfl) a12B_len T ET T10) ?_
      rintro _ _ ⟨⟨A153, C154, l155, s156, o157⟩, ⟨A158, C159, l160, s161, o162⟩, hx163, hx164, rfl, rfl⟩
      obtain rfl : F516 = l155 := hx163.symm
      obtain rfl : (List.replicate 12 (0 : UInt8)) = l160 := hx164.symm
      refine AtL.move (.inl rfl) rfl rfl ?_
      refine AtL.extract (.inl rfl) rfl rfl rfl ?_
      refine AtL.extract (.inl rfl) rfl rfl rfl ?_
      refine AtL.extract (.inl rfl) rfl rfl rfl ?_
      refine AtL.alloc tf_zero74 (cs := #[.int .i64 0, .slice none 0 0, .slice none 0 0, .bool false]) rfl (.inl rfl) rfl ?_
      intro b165
      refine AtL.store (H' := [(b165, .cells #[.int .i64 200, .slice A153 F516.length C154, .slice A158 (List.replicate 12 (0 : UInt8)).length C159, .bool true] 74 (0, 0))] :: s156 :: s161 :: s150 :: s144 :: s140 :: s134 :: s34 :: s28 :: s22 :: s16 :: s10 :: s4 :: H) 0 0 tf_sz74 (.inl rfl) rfl rfl rfl rfl rfl rfl rfl rfl rfl ?_
      refine AtL.assign (.inl rfl) rfl rfl ?_
      refine AtL.assign (.inl rfl) rfl rfl ?_
      refine AtL.done ?_
      refine At.seq ?_
      refine At.region ?_
      refine AtL.move (.inl rfl) rfl rfl ?_
      refine AtL.eqs (a := [47, 97]) (b := [47, 97]) (.inl rfl) rfl rfl rfl ?_
      refine AtL.move (.inl rfl) rfl rfl ?_
      refine AtL.join 3 (E' := [(81, .bool (decide (([] : List UInt8) = []))), (3, str []), (4, str []), (6, .int .i64 400), (8, .int .i64 405), (10, .int .i64 400), (12, .int .i64 415), (14, .int .i64 400), (16, .int .i64 0), (18, .int .i64 4), (19, .pointer (some ⟨b165, 0, none⟩)), (21, .int .i64 0)]) (H' := [(b165, .cells #[.int .i64 200, .slice A153 F516.length C154, .slice A158 (List.replicate 12 (0 : UInt8)).length C159, .bool true] 74 (0, 0))] :: s156 :: s161 :: s150 :: s144 :: s140 :: s134 :: s34 :: s28 :: s22 :: s16 :: s10 :: s4 :: H) (fun J => ?_) ?_
      · refine AtL.split (t := 78) rfl ?_ ?_
        · intro hs78
          have hs78 : ([47, 97] : List UInt8) = [47, 97] := of_decide_eq_true hs78
          refine AtL.move (.inr ⟨_, _, _, rfl, rfl, rfl, rfl⟩) rfl rfl ?_
          refine AtL.eqs (a := []) (b := []) (.inr ⟨_, _, _, rfl, rfl, rfl, rfl⟩) rfl rfl rfl ?_
          refine AtL.pickT (.inl rfl) rfl rfl rfl ?_
          exact J _ (by exact ⟨(boolIs (by clear J; first | (simp [hs78]; done) | (simp_all; done) | grind)), rfl, rfl, rfl, rfl, rfl, rfl, rfl, rfl, rfl, rfl, rfl, trivial⟩)
        · intro hs78
          exact Bool.noConfusion (hs78.symm.trans (decide_eq_true rfl))
      · skip
        refine AtL.move (.inl rfl) rfl rfl ?_
        refine AtL.join 3 (E' := [(85, .bool (decide (([] : List UInt8) = []))), (4, str []), (6, .int .i64 400), (8, .int .i64 405), (10, .int .i64 400), (12, .int .i64 415), (14, .int .i64 400), (16, .int .i64 0), (18, .int .i64 4), (19, .pointer (some ⟨b165, 0, none⟩)), (21, .int .i64 0)]) (H' := [(b165, .cells #[.int .i64 200, .slice A153 F516.length C154, .slice A158 (List.replicate 12 (0 : UInt8)).length C159, .bool true] 74 (0, 0))] :: s156 :: s161 :: s150 :: s144 :: s140 :: s134 :: s34 :: s28 :: s22 :: s16 :: s10 :: s4 :: H) (fun J => ?_) ?_
        · refine AtL.split (t := 82) rfl ?_ ?_
          · intro hs82
            have hs82 : ([] : List UInt8) = [] := of_decide_eq_true hs82
            refine AtL.move (.inr ⟨_, _, _, rfl, rfl, rfl, rfl⟩) rfl rfl ?_
            refine AtL.eqs (a := []) (b := []) (.inr ⟨_, _, _, rfl, rfl, rfl, rfl⟩) rfl rfl rfl ?_
            refine AtL.pickT (.inl rfl) rfl rfl rfl ?_
            exact J _ (by exact ⟨(boolIs (by clear J; first | (simp [hs82]; done) | (simp_all; done) | grind)), rfl, rfl, rfl, rfl, rfl, rfl, rfl, rfl, rfl, rfl, trivial⟩)
          · intro hs82
            exact Bool.noConfusion (hs82.symm.trans (decide_eq_true rfl))
        · skip
          refine AtL.move (.inl rfl) rfl rfl ?_
          refine AtL.join 3 (E' := [(89, .bool (decide (([] : List UInt8) = []))), (6, .int .i64 400), (8, .int .i64 405), (10, .int .i64 400), (12, .int .i64 415), (14, .int .i64 400), (16, .int .i64 0), (18, .int .i64 4), (19, .pointer (some ⟨b165, 0, none⟩)), (21, .int .i64 0)]) (H' := [(b165, .cells #[.int .i64 200, .slice A153 F516.length C154, .slice A158 (List.replicate 12 (0 : UInt8)).length C159, .bool true] 74 (0, 0))] :: s156 :: s161 :: s150 :: s144 :: s140 :: s134 :: s34 :: s28 :: s22 :: s16 :: s10 :: s4 :: H) (fun J => ?_) ?_
          · refine AtL.split (t := 86) rfl ?_ ?_
            · intro hs86
              have hs86 : ([] : List UInt8) = [] := of_decide_eq_true hs86
              refine AtL.move (.inr ⟨_, _, _, rfl, rfl, rfl, rfl⟩) rfl rfl ?_
              refine AtL.eqs (a := []) (b := []) (.inr ⟨_, _, _, rfl, rfl, rfl, rfl⟩) rfl rfl rfl ?_
              refine AtL.pickT (.inl rfl) rfl rfl rfl ?_
              exact J _ (by exact ⟨(boolIs (by clear J; first | (simp [hs86]; done) | (simp_all; done) | grind)), rfl, rfl, rfl, rfl, rfl, rfl, rfl, rfl, rfl, trivial⟩)
            · intro hs86
              exact Bool.noConfusion (hs86.symm.trans (decide_eq_true rfl))
          · skip
            refine AtL.move (.inl rfl) rfl rfl ?_
            refine AtL.join 3 (E' := [(93, .bool true), (8, .int .i64 405), (10, .int .i64 400), (12, .int .i64 415), (14, .int .i64 400), (16, .int .i64 0), (18, .int .i64 4), (19, .pointer (some ⟨b165, 0, none⟩)), (21, .int .i64 0)]) (H' := [(b165, .cells #[.int .i64 200, .slice A153 F516.length C154, .slice A158 (List.replicate 12 (0 : UInt8)).length C159, .bool true] 74 (0, 0))] :: s156 :: s161 :: s150 :: s144 :: s140 :: s134 :: s34 :: s28 :: s22 :: s16 :: s10 :: s4 :: H) (fun J => ?_) ?_
            · refine AtL.split (t := 90) rfl ?_ ?_
              · intro hs90
                have hs90 : ([] : List UInt8) = [] := of_decide_eq_true hs90
                refine AtL.move (.inr ⟨_, _, _, rfl, rfl, rfl, rfl⟩) rfl rfl ?_
                refine AtL.eqi (.inr ⟨_, _, _, rfl, rfl, rfl, rfl⟩) rfl rfl rfl ?_
                refine AtL.pickT (.inl rfl) rfl rfl rfl ?_
                exact J _ (by exact ⟨rfl, rfl, rfl, rfl, rfl, rfl, rfl, rfl, rfl, trivial⟩)
              · intro hs90
                exact Bool.noConfusion (hs90.symm.trans (decide_eq_true rfl))
            · skip
              refine AtL.move (.inl rfl) rfl rfl ?_
              refine AtL.move (.inr ⟨_, _, _, rfl, rfl, rfl, rfl⟩) rfl rfl ?_
              refine AtL.eqi (.inr ⟨_, _, _, rfl, rfl, rfl, rfl⟩) rfl rfl rfl ?_
              refine AtL.pickT (.inl rfl) rfl rfl rfl ?_
              refine AtL.move (.inl rfl) rfl rfl ?_
              refine AtL.move (.inr ⟨_, _, _, rfl, rfl, rfl, rfl⟩) rfl rfl ?_
              refine AtL.eqi (.inr ⟨_, _, _, rfl, rfl, rfl, rfl⟩) rfl rfl rfl ?_
              refine AtL.pickT (.inl rfl) rfl rfl rfl ?_
              refine AtL.move (.inl rfl) rfl rfl ?_
              refine AtL.move (.inr ⟨_, _, _, rfl, rfl, rfl, rfl⟩) rfl rfl ?_
              refine AtL.eqi (.inr ⟨_, _, _, rfl, rfl, rfl, rfl⟩) rfl rfl rfl ?_
              refine AtL.pickT (.inl rfl) rfl rfl rfl ?_
              refine AtL.move (.inl rfl) rfl rfl ?_
              refine AtL.move (.inr ⟨_, _, _, rfl, rfl, rfl, rfl⟩) rfl rfl ?_
              refine AtL.eqi (.inr ⟨_, _, _, rfl, rfl, rfl, rfl⟩) rfl rfl rfl ?_
              refine AtL.pickT (.inl rfl) rfl rfl rfl ?_
              refine AtL.assign (.inl rfl) rfl rfl ?_
              refine AtL.done ?_
              refine At.seq ?_
              refine At.region ?_
              refine AtL.move (.inl rfl) rfl rfl ?_
              refine AtL.eqi (.inl rfl) rfl rfl rfl ?_
              refine AtL.move (.inl rfl) rfl rfl ?_
              refine AtL.move (.inr ⟨_, _, _, rfl, rfl, rfl, rfl⟩) rfl rfl ?_
              refine AtL.eqi (.inr ⟨_, _, _, rfl, rfl, rfl, rfl⟩) rfl rfl rfl ?_
              refine AtL.pickT (.inl rfl) rfl rfl rfl ?_
              refine AtL.move (.inl rfl) rfl rfl ?_
              refine AtL.move (.inr ⟨_, _, _, rfl, rfl, rfl, rfl⟩) rfl rfl ?_
              refine AtL.eqi (.inr ⟨_, _, _, rfl, rfl, rfl, rfl⟩) rfl rfl rfl ?_
              refine AtL.pickT (.inl rfl) rfl rfl rfl ?_
              refine AtL.move (.inl rfl) rfl rfl ?_
              refine AtL.fieldAddrB tf_fo74_0 (.inr ⟨_, _, _, rfl, rfl, rfl, rfl⟩) rfl rfl rfl ?_
              refine AtL.load tf_flat3 (.inr ⟨_, _, _, rfl, rfl, rfl, rfl⟩) rfl rfl (Cell.own 0 0 rfl rfl rfl) ?_
              refine AtL.eqi (.inr ⟨_, _, _, rfl, rfl, rfl, rfl⟩) rfl rfl rfl ?_
              refine AtL.pickT (.inl rfl) rfl rfl rfl ?_
              refine AtL.move (.inl rfl) rfl rfl ?_
              refine AtL.fieldAddrB tf_fo74_1 (.inr ⟨_, _, _, rfl, rfl, rfl, rfl⟩) rfl rfl rfl ?_
              refine AtL.load tf_flat45 (.inr ⟨_, _, _, rfl, rfl, rfl, rfl⟩) rfl rfl (Cell.own 0 0 rfl rfl rfl) ?_
              refine AtL.lenL Tryz.underlying45 (.inr ⟨_, _, _, rfl, rfl, rfl, rfl⟩) rfl rfl ?_
              refine AtL.eqi (.inr ⟨_, _, _, rfl, rfl, rfl, rfl⟩) rfl rfl rfl ?_
              refine AtL.pickT (.inl rfl) rfl rfl rfl ?_
              refine AtL.move (.inl rfl) rfl rfl ?_
              refine AtL.join 7 (E' := [(138, .bool (decide ((F516.getD 1 (([], []) : List UInt8 × List UInt8)) = (([67, 97, 99, 104, 101, 45, 67, 111, 110, 116, 114, 111, 108] : List UInt8), ([109, 97, 120, 45, 97, 103, 101, 61, 53] : List UInt8))))), (22, .bool true)]) (H' := [(b165, .cells #[.int .i64 200, .slice A153 F516.length C154, .slice A158 (List.replicate 12 (0 : UInt8)).length C159, .bool true] 74 (0, 0))] :: s156 :: s161 :: s150 :: s144 :: s140 :: s134 :: s34 :: s28 :: s22 :: s16 :: s10 :: s4 :: H) (fun J => ?_) ?_
              · refine AtL.split (t := 131) rfl ?_ ?_
                · intro hs131
                  have hs131 : (F516.length : Int) = 2 := of_decide_eq_true hs131
                  refine AtL.fieldAddrB tf_fo74_1 (.inr ⟨_, _, _, rfl, rfl, rfl, rfl⟩) rfl rfl rfl ?_
                  refine AtL.load tf_flat45 (.inr ⟨_, _, _, rfl, rfl, rfl, rfl⟩) rfl rfl (Cell.own 0 0 rfl rfl rfl) ?_
                  refine AtL.indexL 1 (o157.rd (i := 1) rfl) Tryz.underlying45 tf_sz78 (.inr ⟨_, _, _, rfl, rfl, rfl, rfl⟩) rfl rfl rfl rfl (by omega) ?_
                  refine AtL.loadE (n := 0) (o157.rd (i := 1) rfl) (getD_some (([], []) : List UInt8 × List UInt8) (by omega)) rfl tf_agg78 (.inr ⟨_, _, _, rfl, rfl, rfl, rfl⟩) rfl rfl ?_
                  refine AtL.build (cs := [str [67, 97, 99, 104, 101, 45, 67, 111, 110, 116, 114, 111, 108], str [109, 97, 120, 45, 97, 103, 101, 61, 53]]) tf_lay78 (.inr ⟨_, _, _, rfl, rfl, rfl, rfl⟩) rfl rfl rfl ?_
                  refine AtL.ofIs (Do.bin (v := .bool (decide ((F516.getD 1 (([], []) : List UInt8 × List UInt8)) = (([67, 97, 99, 104, 101, 45, 67, 111, 110, 116, 114, 111, 108] : List UInt8), ([109, 97, 120, 45, 97, 103, 101, 61, 53] : List UInt8))))) rfl rfl (fun w => eqField_run (F516.getD 1 (([], []) : List UInt8 × List UInt8)) (([67, 97, 99, 104, 101, 45, 67, 111, 110, 116, 114, 111, 108] : List UInt8), ([109, 97, 120, 45, 97, 103, 101, 61, 53] : List UInt8)) _ _ w)) (.inr ⟨_, _, _, rfl, rfl, rfl, rfl⟩) rfl ?_
                  refine AtL.pickT (.inl rfl) rfl rfl rfl ?_
                  exact J _ (by exact ⟨(boolIs (by clear J; first | (simp [hs131]; done) | (simp_all; done) | grind)), rfl, trivial⟩)
                · intro hs131
                  have hs131 : ¬ ((F516.length : Int) = 2) := of_decide_eq_false hs131
                  exfalso; revert hs131; first | decide | simp
              · skip
                refine AtL.assign (.inl rfl) rfl rfl ?_
                refine AtL.done ?_
                refine At.seq ?_
                refine At.region ?_
                refine AtL.build (cs := [str [0], .int .i64 1, .int .i64 1, .int .i64 7, str [97, 98, 99, 100]]) tf_lay80 (.inl rfl) rfl rfl rfl ?_
                refine AtL.buildSlice (cs := [str [0], .int .i64 1, .int .i64 1, .int .i64 7, str [97, 98, 99, 100]]) Tryz.underlying81 tf_zero80 tf_sz80 rfl rfl (.inl rfl) rfl rfl rfl ?_
                intro b166
                refine AtL.own1 tyRec (l := ([(([0] : List UInt8), 1, 1, 7, ([97, 98, 99, 100] : List UInt8))] : List (List UInt8 × Int × Int × Int × List UInt8))) rfl rfl (by first | decide | simp) ?_
                intro s167 o168
                refine AtL.build (cs := [.int .i64 0, .int .i64 0, .slice none 0 0, .slice (some ⟨b166, 0, none⟩) ([(([0] : List UInt8), 1, 1, 7, ([97, 98, 99, 100] : List UInt8))]).length 1, .slice none 0 0, .slice none 0 0]) tf_lay84 (.inl rfl) rfl rfl rfl ?_
                refine AtL.alloc tf_zero84 (cs := #[.int .i64 0, .int .i64 0, .slice none 0 0, .slice none 0 0, .slice none 0 0, .slice none 0 0]) rfl (.inl rfl) rfl ?_
                intro b169
                refine AtL.store (H' := [(b169, .cells #[.int .i64 0, .int .i64 0, .slice none 0 0, .slice (some ⟨b166, 0, none⟩) ([(([0] : List UInt8), 1, 1, 7, ([97, 98, 99, 100] : List UInt8))]).length 1, .slice none 0 0, .slice none 0 0] 84 (0, 0))] :: s167 :: [(b165, .cells #[.int .i64 200, .slice A153 F516.length C154, .slice A158 (List.replicate 12 (0 : UInt8)).length C159, .bool true] 74 (0, 0))] :: s156 :: s161 :: s150 :: s144 :: s140 :: s134 :: s34 :: s28 :: s22 :: s16 :: s10 :: s4 :: H) 0 0 tf_sz84 (.inl rfl) rfl rfl rfl rfl rfl rfl rfl rfl rfl ?_
                refine AtL.done ?_
                refine At.seq ?_
                refine At.region ?_
                refine AtL.call tf_body12 (.inl rfl) rfl rfl (awake16_ok T) ?_
                rintro _ _ ⟨rfl, rfl⟩
                refine AtL.move (.inl rfl) rfl rfl ?_
                refine AtL.move (.inr ⟨_, _, _, rfl, rfl, rfl, rfl⟩) rfl rfl ?_
                refine AtL.pickT (.inl rfl) rfl rfl rfl ?_
                refine AtL.move (.inl rfl) rfl rfl ?_
                refine AtL.move (.inr ⟨_, _, _, rfl, rfl, rfl, rfl⟩) rfl rfl ?_
                refine AtL.pickT (.inl rfl) rfl rfl rfl ?_
                refine AtL.move (.inl rfl) rfl rfl ?_
                refine AtL.join 4 (E' := [(153, .bool true)]) (H' := [(b169, .cells #[.int .i64 0, .int .i64 0, .slice none 0 0, .slice (some ⟨b166, 0, none⟩) ([(([0] : List UInt8), 1, 1, 7, ([97, 98, 99, 100] : List UInt8))]).length 1, .slice none 0 0, .slice none 0 0] 84 (0, 0))] :: s167 :: [(b165, .cells #[.int .i64 200, .slice A153 F516.length C154, .slice A158 (List.replicate 12 (0 : UInt8)).length C159, .bool true] 74 (0, 0))] :: s156 :: s161 :: s150 :: s144 :: s140 :: s134 :: s34 :: s28 :: s22 :: s16 :: s10 :: s4 :: H) (fun J => ?_) ?_
                · refine AtL.split (t := 149) rfl ?_ ?_
                  · intro hs149
                    have hs149 : (F516.getD 1 (([], []) : List UInt8 × List UInt8)) = (([67, 97, 99, 104, 101, 45, 67, 111, 110, 116, 114, 111, 108] : List UInt8), ([109, 97, 120, 45, 97, 103, 101, 61, 53] : List UInt8)) := of_decide_eq_true hs149
                    refine AtL.loadN (cs := [.int .i64 0, .int .i64 0, .slice none 0 0, .slice (some ⟨b166, 0, none⟩) ([(([0] : List UInt8), 1, 1, 7, ([97, 98, 99, 100] : List UInt8))]).length 1, .slice none 0 0, .slice none 0 0]) tf_agg84 (.inr ⟨_, _, _, rfl, rfl, rfl, rfl⟩) rfl rfl rfl (cellsOwn 0 0 0 rfl rfl rfl) ?_
                    refine AtL.call tf_body40 (.inr ⟨_, _, _, rfl, rfl, rfl, rfl⟩) rfl rfl (age_ok (id := 0) (flags := 0) (qs := []) (an := [(([0] : List UInt8), 1, 1, 7, ([97, 98, 99, 100] : List UInt8))]) (ns := []) (ar := []) Rd.nil_ (o168.rd (i := 1) rfl) Rd.nil_ Rd.nil_ (fun x hx => absurd hx (by simp)) (by decide)) ?_
                    rintro _ _ ⟨za170, rfl, hza171, rfl⟩
                    obtain rfl : 7 = za170 := by
                      have h9 := hza171
                      rw [code0] at h9
                      exact h9.one.symm
                    refine AtL.eqi (.inr ⟨_, _, _, rfl, rfl, rfl, rfl⟩) rfl rfl rfl ?_
                    refine AtL.pickT (.inl rfl) rfl rfl rfl ?_
                    exact J _ (by exact ⟨rfl, trivial⟩)
                  · intro hs149
                    have hs149 : ¬ ((F516.getD 1 (([], []) : List UInt8 × List UInt8)) = (([67, 97, 99, 104, 101, 45, 67, 111, 110, 116, 114, 111, 108] : List UInt8), ([109, 97, 120, 45, 97, 103, 101, 61, 53] : List UInt8))) := of_decide_eq_false hs149
                    exfalso; revert hs149; first | decide | simp
                · skip
                  refine AtL.move (.inl rfl) rfl rfl ?_
                  refine AtL.build (cs := [.int .i64 0, .int .i64 0, .slice none 0 0, .slice none 0 0, .slice none 0 0, .slice none 0 0]) tf_lay84 (.inr ⟨_, _, _, rfl, rfl, rfl, rfl⟩) rfl rfl rfl ?_
                  refine AtL.call tf_body40 (.inr ⟨_, _, _, rfl, rfl, rfl, rfl⟩) rfl rfl (age_ok (id := 0) (flags := 0) (qs := []) (an := []) (ns := []) (ar := []) Rd.nil_ Rd.nil_ Rd.nil_ Rd.nil_ (fun x hx => absurd hx (by simp)) (by decide)) ?_
                  rintro _ _ ⟨za172, rfl, hza173, rfl⟩
                  obtain rfl : 0 = za172 := by
                    have h9 := hza173
                    rw [code0] at h9
                    exact h9.none.symm
                  refine AtL.eqi (.inr ⟨_, _, _, rfl, rfl, rfl, rfl⟩) rfl rfl rfl ?_
                  refine AtL.pickT (.inl rfl) rfl rfl rfl ?_
                  refine AtL.assign (.inl rfl) rfl rfl ?_
                  refine AtL.done ?_
                  refine At.pick (H' := H) [] 15 rfl rfl ?_
                  exact At.ret Tryz.func10 rfl rfl (⟨rfl, rfl⟩)
end Go.Proofs.YtlkdmbpbjhjkfaaGreatDoor
