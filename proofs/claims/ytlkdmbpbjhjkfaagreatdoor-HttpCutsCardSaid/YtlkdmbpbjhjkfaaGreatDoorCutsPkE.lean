/- HttpCuts: the law holds of every input: it returns true, and each argument reads as it did. -/
import Derived.Test.YtlkdmbpbjhjkfaaGreatDoorCutsPkD
namespace Go.Proofs.YtlkdmbpbjhjkfaaGreatDoor
set_option linter.unusedVariables false
set_option linter.unusedSimpArgs false
set_option maxRecDepth 100000
def cutF : List UInt8 → List Int → List (List UInt8)
  | b, [] => [b]
  | b, c :: cs => if b = [] then [b] else b.take (pick c (b.length + 1)).toNat :: cutF (b.drop (pick c (b.length + 1)).toNat) cs
theorem cutF_flat (b : List UInt8) (cs : List Int) : (cutF b cs).flatten = b := by
  induction cs generalizing b with
  | nil => simp [cutF]
  | cons c cs ih =>
    unfold cutF
    split
    · simp
    · rw [List.flatten_cons, ih, List.take_append_drop]
theorem cutF_stop {b : List UInt8} {cs : List Int} {i : Nat} (h : cs.length ≤ i ∨ b.length = 0) : cutF b (cs.drop i) = [b] := by
  rcases h with h | h
  · rw [List.drop_eq_nil_of_le h]; rfl
  · have := List.eq_nil_of_length_eq_zero h
    subst this
    cases hc : cs.drop i with
    | nil => rfl
    | cons c cs => simp [cutF]
theorem cutF_go {b : List UInt8} {cs : List Int} {i : Nat} (h : i < cs.length) (h2 : 0 < b.length) :
    cutF b (cs.drop i) = b.take (pick (cs.getD i 0) (b.length + 1)).toNat :: cutF (b.drop (pick (cs.getD i 0) (b.length + 1)).toNat) (cs.drop (i + 1)) := by
  have h3 : cs.drop i = cs.getD i 0 :: cs.drop (i + 1) := by rw [List.drop_eq_getElem_cons h]; simp [List.getD, h]
  rw [h3, cutF, if_neg (by intro e; subst e; simp at h2)]
theorem pick_bd {x : Int} {n : Nat} : 0 ≤ pick x (n + 1) ∧ pick x (n + 1) ≤ n := by
  rw [pick, if_neg (by omega)]
  have := Int.emod_nonneg x (show ((n : Int) + 1) ≠ 0 by omega)
  have := Int.emod_lt_of_pos x (show (0 : Int) < (n : Int) + 1 by omega)
  omega
theorem flat_take_le (ps : List (List UInt8)) (i : Nat) : (ps.take i).flatten.length ≤ ps.flatten.length := by
  have h1 : ps.flatten = (ps.take i).flatten ++ (ps.drop i).flatten := by rw [← List.flatten_append, List.take_append_drop]
  rw [h1, List.length_append]; omega
theorem flat_getD_le (ps : List (List UInt8)) (i : Nat) : (ps.getD i []).length ≤ ps.flatten.length := by
  by_cases h : i < ps.length
  · have h1 : ps = ps.take i ++ ps.getD i [] :: ps.drop (i + 1) := by
      have : ps.getD i [] = ps[i] := by simp [List.getD, h]
      rw [this, ← List.drop_eq_getElem_cons h, List.take_append_drop]
    have h2 : ps.flatten.length = (ps.take i).flatten.length + ((ps.getD i []).length + (ps.drop (i + 1)).flatten.length) := by
      conv => lhs; rw [h1]
      simp
    omega
  · simp [List.getD, h]
theorem cutF_len (b : List UInt8) (cs : List Int) : (cutF b cs).length ≤ cs.length + 1 := by
  induction cs generalizing b with
  | nil => simp [cutF]
  | cons c cs ih =>
    unfold cutF
    split
    · simp
    · have := ih (b.drop (pick c (b.length + 1)).toNat)
      simp; omega
theorem cut_facts {x : List Bs} {l : List UInt8} {ns : List Int} (h : x.map (·.l) = cutF l ns) : (x.map (·.l)).flatten = l ∧ x.length ≤ ns.length + 1 := by
  have h1 := cutF_len l ns
  rw [← h] at h1
  exact ⟨by rw [h, cutF_flat], by simpa using h1⟩
set_option maxHeartbeats 400000 in
theorem cut14_ok {w0 : World} {base : Nat} {H : List Seg} {A A2 : Option Addr} {C C2 : Nat} {l : List UInt8} {ns : List Int} (h : Rd tyB w0 base H A C l) (h2 : Rd tyI w0 base H A2 C2 ns) (hl : l.length ≤ 1000000) (hc : ns.length ≤ 1000) :
    SCalls Tryz.prog 33 [.slice A l.length C, .slice A2 ns.length C2] w0 base (H) (fun v H' => ∃ x : Sl tyL 22, x.l.map (·.l) = cutF l ns ∧ (∀ y ∈ x.l, Rd tyB w0 base H y.A y.C y.l) ∧ v = .slice x.A x.l.length x.C ∧ H' = x.s :: H) := by
  refine SCalls.of_walk (n := 40) Tryz.func33 rfl rfl rfl fun cs => ?_
  refine At.seq ?_
  refine At.region ?_
  refine AtL.assign (.inl rfl) rfl rfl ?_
  refine AtL.done ?_
  refine At.seq ?_
  refine At.region ?_
  refine AtL.assign (.inl rfl) rfl rfl ?_
  refine AtL.done ?_
  refine At.seq ?_
  refine At.seq ?_
  refine At.region ?_
  refine AtL.assign (.inl rfl) rfl rfl ?_
  refine AtL.done ?_
  refine At.block ?_
  refine At.nil ?_
  refine At.loop3 (fun (i : Nat) (x : Sl tyL 22) (v : Vw tyB w0 base H) => [(0, .slice v.A v.l.length v.C), (1, .slice A2 ns.length C2), (5, .slice x.A x.l.length x.C), (6, .int .i64 (i : Int))]) (fun (i : Nat) (x : Sl tyL 22) (v : Vw tyB w0 base H) => x.s :: H) (fun (i : Nat) (x : Sl tyL 22) (v : Vw tyB w0 base H) => x.l.map (·.l) ++ cutF v.l (ns.drop i) = cutF l ns ∧ (∀ y ∈ x.l, Rd tyB w0 base H y.A y.C y.l) ∧ v.l.length ≤ l.length ∧ i ≤ ns.length ∧ x.l.length = i) (fun (i : Nat) (x : Sl tyL 22) (v : Vw tyB w0 base H) => ns.length - i) 0 Sl.nil (⟨A, C, l, h⟩) (⟨rfl, el_nil, Nat.le_refl _, Nat.zero_le _, rfl⟩) ⟨rfl, rfl, rfl, rfl, trivial⟩ rfl ?_
  rintro i x v ⟨hI, hx, hv, hi, hxi⟩ ihL1
  have hp := pick_bd (x := ns.getD i 0) (n := v.l.length)
  refine At.seq ?_
  refine At.seq ?_
  refine At.region ?_
  refine AtL.move (.inl rfl) rfl rfl ?_
  refine AtL.move (.inl rfl) rfl rfl ?_
  refine AtL.lenL Tryz.underlying55 (.inl rfl) rfl rfl ?_
  refine AtL.lss (.inl rfl) rfl rfl rfl ?_
  refine AtL.move (.inl rfl) rfl rfl ?_
  refine AtL.join 4 (E' := [(16, .bool (decide (((i : Int) < (ns.length : Int)) ∧ (0 < (v.l.length : Int))))), (0, .slice v.A v.l.length v.C), (1, .slice A2 ns.length C2), (5, .slice x.A x.l.length x.C), (6, .int .i64 (i : Int))]) (H' := x.s :: H) (fun J => ?_) ?_
  · refine AtL.split (t := 12) rfl ?_ ?_
    · intro hs12
      have hs12 : (i : Int) < (ns.length : Int) := of_decide_eq_true hs12
      refine AtL.move (.inr ⟨_, _, _, rfl, rfl, rfl, rfl⟩) rfl rfl ?_
      refine AtL.lenL Tryz.underlying22 (.inr ⟨_, _, _, rfl, rfl, rfl, rfl⟩) rfl rfl ?_
      refine AtL.gtr (.inr ⟨_, _, _, rfl, rfl, rfl, rfl⟩) rfl rfl rfl ?_
      refine AtL.pickT (.inl rfl) rfl rfl rfl ?_
      exact J _ (by exact ⟨(boolIs (by clear J; first | (simp [hs12]; done) | (simp_all; done) | grind)), rfl, rfl, rfl, rfl, trivial⟩)
    · intro hs12
      have hs12 : ¬ ((i : Int) < (ns.length : Int)) := of_decide_eq_false hs12
      refine AtL.skipped rfl rfl rfl rfl rfl rfl ?_
      refine AtL.skipped rfl rfl rfl rfl rfl rfl ?_
      refine AtL.skipped rfl rfl rfl rfl rfl rfl ?_
      refine AtL.pickF (.inl rfl) rfl rfl rfl ?_
      exact J _ (by exact ⟨(boolIs (by clear J; first | (simp [hs12]; done) | (simp_all; done) | grind)), rfl, rfl, rfl, rfl, trivial⟩)
  · skip
    refine AtL.done ?_
    refine At.cond rfl ?_ ?_
    · intro hc1
      have hc1 : ((i : Int) < (ns.length : Int)) ∧ (0 < (v.l.length : Int)) := of_decide_eq_true hc1
      refine At.skip ?_
      refine At.seq ?_
      refine At.block ?_
      refine At.seq ?_
      refine At.region ?_
      refine AtL.move (.inl rfl) rfl rfl ?_
      refine AtL.move (.inl rfl) rfl rfl ?_
      refine AtL.indexL i (Rd.skip 1 h2) Tryz.underlying55 tf_sz3 (.inl rfl) rfl rfl rfl rfl (by omega) ?_
      refine AtL.load (v := .int .i64 (ns.getD i 0)) tf_flat3 (.inl rfl) rfl rfl (Rd.cell0 (Rd.skip 1 h2) (getD_some 0 (by omega)) rfl) ?_
      refine AtL.move (.inl rfl) rfl rfl ?_
      refine AtL.lenL Tryz.underlying22 (.inl rfl) rfl rfl ?_
      refine AtL.add (z := (v.l.length : Int) + 1) (.inl rfl) rfl rfl rfl (w64 (by omega) (by omega)) ?_
      refine AtL.call tf_body50 (.inl rfl) rfl rfl (pick_ok (ns.getD i 0) ((v.l.length : Int) + 1) (by omega)) ?_
      rintro _ _ ⟨rfl, rfl⟩
      refine AtL.assign (.inl rfl) rfl rfl ?_
      refine AtL.done ?_
      refine At.seq ?_
      refine At.region ?_
      refine AtL.move (.inl rfl) rfl rfl ?_
      refine AtL.move (.inl rfl) rfl rfl ?_
      refine AtL.move (.inl rfl) rfl rfl ?_
      have hleo3 := Rd.le v.rd
      refine AtL.sliceR 1 0 (Int.toNat (pick (ns.getD i 0) ((v.l.length : Int) + 1))) v.C v.rd rfl (evBound_some rfl (by omega)) rfl (by intro h; cases h) (by omega) (by omega) (by omega) (by omega) Tryz.underlying22 tf_sz5 (.inl rfl) rfl rfl ?_
      clear hleo3
      intro A1 C2 (o3 : Rd tyB w0 base H A1 C2 (subl v.l 0 (Int.toNat (pick (ns.getD i 0) ((v.l.length : Int) + 1)))))
      have hlo3 : (subl v.l 0 (Int.toNat (pick (ns.getD i 0) ((v.l.length : Int) + 1)))).length = (Int.toNat (pick (ns.getD i 0) ((v.l.length : Int) + 1))) - 0 := subl_len (by omega)
      refine AtL.buildSlice (cs := [.slice A1 (subl v.l 0 (Int.toNat (pick (ns.getD i 0) ((v.l.length : Int) + 1)))).length C2]) Tryz.underlying33 tf_zero22 tf_sz22 rfl rfl (.inl rfl) rfl rfl rfl ?_
      intro b4
      refine AtL.own1 tyL (l := ([(⟨A1, C2, subl v.l 0 (Int.toNat (pick (ns.getD i 0) ((v.l.length : Int) + 1)))⟩ : Bs)] : List Bs)) rfl rfl (by first | decide | simp) ?_
      intro s5 o6
      refine AtL.append (l := x.l) (news := [(⟨A1, C2, subl v.l 0 (Int.toNat (pick (ns.getD i 0) ((v.l.length : Int) + 1)))⟩ : Bs)]) 1 tf_el33 rfl x.own (o6.rd (i := 0) rfl) (by first | omega | (simp only [List.length_append, List.length_cons, List.length_nil]; omega) | (simp; done) | (simp; omega)) (.inl rfl) rfl rfl rfl ?_
      intro A7 C8 s9 o10
      refine AtL.assign (.inl rfl) rfl rfl ?_
      refine AtL.done ?_
      refine At.region ?_
      refine AtL.move (.inl rfl) rfl rfl ?_
      refine AtL.move (.inl rfl) rfl rfl ?_
      have hleo13 := Rd.le v.rd
      refine AtL.sliceR 2 (Int.toNat (pick (ns.getD i 0) ((v.l.length : Int) + 1))) v.l.length v.C v.rd (evBound_some rfl (by omega)) rfl rfl (by intro h; cases h) (by omega) (by omega) (by omega) (by omega) Tryz.underlying22 tf_sz5 (.inl rfl) rfl rfl ?_
      clear hleo13
      intro A11 C12 (o13 : Rd tyB w0 base H A11 C12 (subl v.l (Int.toNat (pick (ns.getD i 0) ((v.l.length : Int) + 1))) v.l.length))
      have hlo13 : (subl v.l (Int.toNat (pick (ns.getD i 0) ((v.l.length : Int) + 1))) v.l.length).length = v.l.length - (Int.toNat (pick (ns.getD i 0) ((v.l.length : Int) + 1))) := subl_len (by omega)
      refine AtL.assign (.inl rfl) rfl rfl ?_
      refine AtL.done ?_
      refine At.inBlock ?_
      refine At.region ?_
      refine AtL.move (.inl rfl) rfl rfl ?_
      refine AtL.add (z := (i : Int) + 1) (.inl rfl) rfl rfl rfl (w64 (by omega) (by omega)) ?_
      refine AtL.assign (.inl rfl) rfl rfl ?_
      refine AtL.done ?_
      refine At.pick (H' := s9 :: H) [1] 2 rfl rfl ?_
      refine ihL1 (i + 1) (⟨A7, C8, x.l ++ [(⟨A1, C2, subl v.l 0 (Int.toNat (pick (ns.getD i 0) ((v.l.length : Int) + 1)))⟩ : Bs)], s9, o10⟩) (⟨A11, C12, subl v.l (Int.toNat (pick (ns.getD i 0) ((v.l.length : Int) + 1))) v.l.length, o13⟩) (⟨by dsimp only; rw [← hI, cutF_go (b := v.l) (cs := ns) (i := i) (by omega) (by omega), subl_to, subl_from]; simp, (el_app hx (el_cons (P := fun (x : Bs) => Rd tyB w0 base (H) x.A x.C x.l) o3 el_nil)), by simp only [subl_from, List.length_drop]; omega, by omega, by simp [hxi]⟩) (by omega) _ ?_
      exact ⟨rfl, rfl, slLen (by simp), rfl, trivial⟩
    · intro hc1
      have hc1 : ¬ (((i : Int) < (ns.length : Int)) ∧ (0 < (v.l.length : Int))) := of_decide_eq_false hc1
      refine At.exit rfl ?_
      refine At.seq ?_
      refine At.region ?_
      refine AtL.move (.inl rfl) rfl rfl ?_
      refine AtL.move (.inl rfl) rfl rfl ?_
      refine AtL.buildSlice (cs := [.slice v.A v.l.length v.C]) Tryz.underlying33 tf_zero22 tf_sz22 rfl rfl (.inl rfl) rfl rfl rfl ?_
      intro b14
      refine AtL.own1 tyL (l := ([(⟨v.A, v.C, v.l⟩ : Bs)] : List Bs)) rfl rfl (by first | decide | simp) ?_
      intro s15 o16
      refine AtL.append (l := x.l) (news := [(⟨v.A, v.C, v.l⟩ : Bs)]) 1 tf_el33 rfl x.own (o16.rd (i := 0) rfl) (by first | omega | (simp only [List.length_append, List.length_cons, List.length_nil]; omega) | (simp; done) | (simp; omega)) (.inl rfl) rfl rfl rfl ?_
      intro A17 C18 s19 o20
      refine AtL.assign (.inl rfl) rfl rfl ?_
      refine AtL.done ?_
      refine At.pick (H' := s19 :: H) [1] 2 rfl rfl ?_
      exact At.ret Tryz.func33 rfl rfl (⟨⟨A17, C18, x.l ++ [(⟨v.A, v.C, v.l⟩ : Bs)], s19, o20⟩, by rw [← hI, cutF_stop (b := v.l) (cs := ns) (i := i) (by omega)]; simp, (el_app hx (el_cons (P := fun (x : Bs) => Rd tyB w0 base (H) x.A x.C x.l) v.rd el_nil)), rfl, rfl⟩)
theorem run_len (b : List UInt8) : (runF b).2.1.length ≤ b.length ∧ (runF b).1.length ≤ b.length + 1 := by
  induction h : b.length using Nat.strongRecOn generalizing b with
  | _ n ih =>
    cases hh : headF14 b with
    | wait => rw [run_wait hh]; simp; omega
    | ends s => rw [run_ends hh]; simp
    | ready hd long body k =>
      have hl := head_long hh
      by_cases hs : b.length < long + body
      · rw [run_short hh hs]; simp; omega
      · cases k with
        | false => rw [run_last hh hs]; simp
        | true =>
          have := ih (b.drop (long + body)).length (by rw [List.length_drop]; omega) _ rfl
          rw [run_more hh hs]
          rw [List.length_drop] at this
          simp only [List.length_cons]; omega
theorem push_any {w0 : World} {base : Nat} {H : List Seg} {r : Nat} {x : Sl tyB 5} {ph : Rph} {g : Nat → Value} {A : Option Addr} {C : Nat} {l b : List UInt8} (h : Rd tyB w0 base H A C l) (hr : RdOk ph x b false) (hsz : b.length + l.length ≤ 999990) (T : Tabs w0 base) :
    SCalls Tryz.prog 25 [.pointer (some ⟨r, 0, none⟩), .slice A l.length C] w0 base (ph.s :: x.s :: rdC r ph x (.slice none 0 0) g :: H) (fun v H' => ∃ (its : List It) (o : Sl tyItem 49) (ph' : Rph) (x' : Sl tyB 5) (g' : Nat → Value), o.l = its.map It.v ∧ its.map It.pl = (runF (b ++ l)).1 ∧ RdOk ph' x' (runF (b ++ l)).2.1 (runF (b ++ l)).2.2 ∧ v = .tuple #[.slice o.A o.l.length o.C, int 0] ∧ H' = itS its :: o.s :: ph'.s :: x'.s :: rdC r ph' x' (.slice none 0 0) g' :: H) := by
  have hx := hr.kept rfl
  refine (rdpush_ok h hr.over hr.ok (by rw [hx]; exact hsz) T).mono ?_
  rintro v H1 ⟨its, o, ph', x', g', ho, hp, hok, hov, hkp, rfl, rfl⟩
  rw [hx] at hp hov hkp
  exact ⟨its, o, ph', x', g', ho, hp, ⟨hok, hov, fun h => hkp (hov.trans h)⟩, rfl, rfl⟩
theorem flat_snoc14 {l : List Bs} {i : Nat} (h : i < l.length) : ((l.map (·.l)).take (i + 1)).flatten = ((l.map (·.l)).take i).flatten ++ (l.getD i ⟨none, 0, []⟩).l := by
  rw [List.take_succ_eq_append_getElem (by simpa using h), List.flatten_append]
  simp [List.getD, h]
theorem run_two {P q : List UInt8} {kb : List UInt8} (h : kb = (runF P).2.1) (ho : false = (runF P).2.2) : runF (P ++ q) = ((runF P).1 ++ (runF (kb ++ q)).1, (runF (kb ++ q)).2) := by
  rw [run_app P.length P q (Nat.le_refl _), ← ho, if_neg (by simp), h]
theorem run_done {P q : List UInt8} (ho : true = (runF P).2.2) : runF (P ++ q) = runF P := by
  rw [run_app P.length P q (Nat.le_refl _), ← ho, if_pos rfl]
theorem run_pref {l : List Bs} {i : Nat} (ho : true = (runF ((l.map (·.l)).take i).flatten).2.2) : runF (l.map (·.l)).flatten = runF ((l.map (·.l)).take i).flatten := by
  have : (l.map (·.l)).flatten = ((l.map (·.l)).take i).flatten ++ ((l.map (·.l)).drop i).flatten := by rw [← List.flatten_append, List.take_append_drop]
  rw [this, run_done ho]
set_option maxHeartbeats 1000000 in
theorem pushed14_ok {w0 : World} {base : Nat} {H : List Seg} {A : Option Addr} {C : Nat} {l : List Bs} (h : Rd tyL w0 base H A C l) (he : ∀ x ∈ l, Rd tyB w0 base H x.A x.C x.l) (hl : (l.map (·.l)).flatten.length ≤ 60000) (hn : l.length ≤ 1000000) (T : Tabs w0 base) :
    SCalls Tryz.prog 32 [.slice A l.length C] w0 base (H) (fun v H' => ∃ (its : List It) (y : Sl tyItem 49), y.l = its.map It.v ∧ its.map It.pl = (runF (l.map (·.l)).flatten).1 ∧ v = .tuple #[.slice y.A y.l.length y.C, .bool (runF (l.map (·.l)).flatten).2.2, .bool true] ∧ H' = itS its :: y.s :: H) := by
  have hle0 := h.le
  have hcap0 := h.cap
  refine SCalls.of_walk (n := 46) Tryz.func32 rfl rfl rfl fun cs => ?_
  refine At.seq ?_
  refine At.region ?_
  refine AtL.assign (.inl rfl) rfl rfl ?_
  refine AtL.assign (.inl rfl) rfl rfl ?_
  refine AtL.assign (.inl rfl) rfl rfl ?_
  refine AtL.done ?_
  refine At.seq ?_
  refine At.region ?_
  refine AtL.call tf_body21 (.inl rfl) rfl rfl rdnew2 ?_
  rintro _ _ ⟨r1, ph2, x3, g4, h5, h6, rfl, rfl⟩
  have hr7 := RdOk.new h5 h6
  refine AtL.assign (.inl rfl) rfl rfl ?_
  refine AtL.done ?_
  refine At.seq ?_
  refine At.seq ?_
  refine At.region ?_
  refine AtL.move (.inl rfl) rfl rfl ?_
  refine AtL.eqPtrNil Tryz.underlying34 (.inl rfl) rfl rfl rfl ?_
  refine AtL.done ?_
  refine At.condF rfl ?_
  refine At.skip ?_
  refine At.seq ?_
  refine At.region ?_
  refine AtL.assign (.inl rfl) rfl rfl ?_
  refine AtL.done ?_
  refine At.seq ?_
  refine At.seq ?_
  refine At.region ?_
  refine AtL.assign (.inl rfl) rfl rfl ?_
  refine AtL.done ?_
  refine At.block ?_
  refine At.nil ?_
  refine At.nil ?_
  refine At.loop6 (fun (i : Nat) (y : Sl tyItem 49) (its : List It) (ph : Rph) (x : Sl tyB 5) (g : Nat → Value) => [(0, .slice A l.length C), (5, .pointer (some ⟨r1, 0, none⟩)), (6, .slice y.A y.l.length y.C), (7, .int .i64 (i : Int))]) (fun (i : Nat) (y : Sl tyItem 49) (its : List It) (ph : Rph) (x : Sl tyB 5) (g : Nat → Value) => itS its :: y.s :: ph.s :: x.s :: rdC r1 ph x (.slice none 0 0) g :: H) (fun (i : Nat) (y : Sl tyItem 49) (its : List It) (ph : Rph) (x : Sl tyB 5) (g : Nat → Value) => i ≤ l.length ∧ y.l = its.map It.v ∧ its.map It.pl = (runF ((l.map (·.l)).take i).flatten).1 ∧ RdOk ph x (runF ((l.map (·.l)).take i).flatten).2.1 (runF ((l.map (·.l)).take i).flatten).2.2) (fun (i : Nat) (y : Sl tyItem 49) (its : List It) (ph : Rph) (x : Sl tyB 5) (g : Nat → Value) => l.length - i) 0 Sl.nil [] ph2 x3 g4 (⟨Nat.zero_le _, rfl, by show [] = (runF []).1; rw [run_nil14], by show RdOk _ _ (runF []).2.1 (runF []).2.2; rw [run_nil14]; exact hr7⟩) ⟨rfl, rfl, rfl, rfl, trivial⟩ rfl ?_
  rintro i y its ph x g ⟨hi, hy, hpl, hrd⟩ ihL1
  have hT := flat_take_le (l.map (·.l)) i
  have hyl : y.l.length = (runF ((l.map (·.l)).take i).flatten).1.length := by rw [hy, ← hpl, List.length_map, List.length_map]
  have hrl := run_len ((l.map (·.l)).take i).flatten
  obtain ⟨kb, hkb⟩ : ∃ q : List UInt8, q = (runF ((l.map (·.l)).take i).flatten).2.1 := ⟨_, rfl⟩
  obtain ⟨ob, hob⟩ : ∃ q : Bool, q = (runF ((l.map (·.l)).take i).flatten).2.2 := ⟨_, rfl⟩
  rw [← hkb, ← hob] at hrd
  rw [← hkb, ← hyl] at hrl
  refine At.seq ?_
  refine At.seq ?_
  refine At.region ?_
  refine AtL.move (.inl rfl) rfl rfl ?_
  refine AtL.move (.inl rfl) rfl rfl ?_
  refine AtL.lenL Tryz.underlying33 (.inl rfl) rfl rfl ?_
  refine AtL.lss (.inl rfl) rfl rfl rfl ?_
  refine AtL.move (.inl rfl) rfl rfl ?_
  refine AtL.join 4 (E' := [(21, .bool (decide (((i : Int) < (l.length : Int)) ∧ (ob = false)))), (0, .slice A l.length C), (5, .pointer (some ⟨r1, 0, none⟩)), (6, .slice y.A y.l.length y.C), (7, .int .i64 (i : Int))]) (H' := itS its :: y.s :: ph.s :: x.s :: rdC r1 ph x (.slice none 0 0) g :: H) (fun J => ?_) ?_
  · refine AtL.split (t := 17) rfl ?_ ?_
    · intro hs17
      have hs17 : (i : Int) < (l.length : Int) := of_decide_eq_true hs17
      refine AtL.move (.inr ⟨_, _, _, rfl, rfl, rfl, rfl⟩) rfl rfl ?_
      refine AtL.pick (H' := ph.s :: x.s :: rdC r1 ph x (.slice none 0 0) g :: itS its :: y.s :: H) [2, 3, 4, 0, 1] 5 rfl rfl ?_
      refine AtL.call tf_body29 (.inr ⟨_, _, _, rfl, rfl, rfl, rfl⟩) rfl rfl (over2 hrd) ?_
      rintro _ _ ⟨rfl, rfl⟩
      refine AtL.not (.inr ⟨_, _, _, rfl, rfl, rfl, rfl⟩) rfl rfl ?_
      refine AtL.pickT (.inl rfl) rfl rfl rfl ?_
      refine AtL.pick (H' := itS its :: y.s :: ph.s :: x.s :: rdC r1 ph x (.slice none 0 0) g :: H) [3, 4, 0, 1, 2] 5 rfl rfl ?_
      exact J _ (by exact ⟨(boolIs (by clear J; first | (simp [hs17]; done) | (simp_all; done) | grind)), rfl, rfl, rfl, rfl, trivial⟩)
    · intro hs17
      have hs17 : ¬ ((i : Int) < (l.length : Int)) := of_decide_eq_false hs17
      refine AtL.skipped rfl rfl rfl rfl rfl rfl ?_
      refine AtL.skipped rfl rfl rfl rfl rfl rfl ?_
      refine AtL.skipped rfl rfl rfl rfl rfl rfl ?_
      refine AtL.pickF (.inl rfl) rfl rfl rfl ?_
      exact J _ (by exact ⟨(boolIs (by clear J; first | (simp [hs17]; done) | (simp_all; done) | grind)), rfl, rfl, rfl, rfl, trivial⟩)
  · skip
    refine AtL.done ?_
    refine At.cond rfl ?_ ?_
    · intro hc2
      have hc2 : ((i : Int) < (l.length : Int)) ∧ (ob = false) := of_decide_eq_true hc2
      obtain rfl : ob = false := by first | exact hc2.2 | simpa using hc2.2
      have hlen := flat_getD_le (l.map (·.l)) i
      have hg : (l.map (·.l)).getD i [] = (l.getD i ⟨none, 0, []⟩).l := by simp [List.getD, show i < l.length by omega]
      rw [hg] at hlen
      have hT1 := flat_take_le (l.map (·.l)) (i + 1)
      rw [flat_snoc14 (show i < l.length by omega), List.length_append] at hT1
      refine At.skip ?_
      refine At.seq ?_
      refine At.block ?_
      refine At.seq ?_
      refine At.region ?_
      refine AtL.move (.inl rfl) rfl rfl ?_
      refine AtL.move (.inl rfl) rfl rfl ?_
      refine AtL.move (.inl rfl) rfl rfl ?_
      refine AtL.indexL i (Rd.skip 5 h) Tryz.underlying33 tf_sz22 (.inl rfl) rfl rfl rfl rfl (by omega) ?_
      refine AtL.load (v := .slice ((l.getD i (⟨none, 0, []⟩ : Bs)).A) ((l.getD i (⟨none, 0, []⟩ : Bs)).l).length ((l.getD i (⟨none, 0, []⟩ : Bs)).C)) tf_flat22 (.inl rfl) rfl rfl (Rd.cell0 (Rd.skip 5 h) (getD_some (⟨none, 0, []⟩ : Bs) (by omega)) rfl) ?_
      refine AtL.pick (H' := ph.s :: x.s :: rdC r1 ph x (.slice none 0 0) g :: itS its :: y.s :: H) [2, 3, 4, 0, 1] 5 rfl rfl ?_
      refine AtL.call tf_body25 (.inl rfl) rfl rfl (push_any (l := (l.getD i (⟨none, 0, []⟩ : Bs)).l) (Rd.skip 2 (he _ (getD_mem (l := l) (i := i) (d := (⟨none, 0, []⟩ : Bs)) (by omega)))) hrd (by omega) T) ?_
      rintro _ _ ⟨its8, o9, ph10, x11, g12, ho13, hp14, hr15, rfl, rfl⟩
      obtain ⟨kb16, hkb18⟩ : ∃ q : List UInt8, q = (runF (kb ++ (l.getD i (⟨none, 0, []⟩ : Bs)).l)).2.1 := ⟨_, rfl⟩
      obtain ⟨ob17, hob19⟩ : ∃ q : Bool, q = (runF (kb ++ (l.getD i (⟨none, 0, []⟩ : Bs)).l)).2.2 := ⟨_, rfl⟩
      rw [← hkb18, ← hob19] at hr15
      have ho13e : ∀ x ∈ o9.l, Rd tyField w0 base (itS its8 :: H) x.2.2.2.2.1.A x.2.2.2.2.1.C x.2.2.2.2.1.l ∧ Rd tyB w0 base (itS its8 :: H) x.2.2.2.2.2.1.A x.2.2.2.2.2.1.C x.2.2.2.2.2.1.l := by rw [ho13]; exact it_el its8 w0 base H
      have ho13l : o9.l.length = (runF (kb ++ (l.getD i (⟨none, 0, []⟩ : Bs)).l)).1.length := by rw [ho13, ← hp14, List.length_map, List.length_map]
      have ho13n := run_len (kb ++ (l.getD i (⟨none, 0, []⟩ : Bs)).l)
      rw [← hkb18, ← ho13l, List.length_append] at ho13n
      refine AtL.move (.inl rfl) rfl rfl ?_
      refine AtL.extract (.inl rfl) rfl rfl rfl ?_
      refine AtL.extract (.inl rfl) rfl rfl rfl ?_
      refine AtL.assign (.inl rfl) rfl rfl ?_
      refine AtL.assign (.inl rfl) rfl rfl ?_
      refine AtL.done ?_
      refine At.seq ?_
      refine At.seq ?_
      refine At.region ?_
      refine AtL.move (.inl rfl) rfl rfl ?_
      refine AtL.nei (.inl rfl) rfl rfl rfl ?_
      refine AtL.move (.inl rfl) rfl rfl ?_
      refine AtL.move (.inr ⟨_, _, _, rfl, rfl, rfl, rfl⟩) rfl rfl ?_
      refine AtL.pick (H' := ph10.s :: x11.s :: rdC r1 ph10 x11 (.slice none 0 0) g12 :: itS its8 :: o9.s :: itS its :: y.s :: H) [2, 3, 4, 0, 1, 5, 6] 7 rfl rfl ?_
      refine AtL.call tf_body28 (.inr ⟨_, _, _, rfl, rfl, rfl, rfl⟩) rfl rfl (left2 hr15) ?_
      rintro _ _ ⟨rfl, rfl⟩
      refine AtL.gtr (.inr ⟨_, _, _, rfl, rfl, rfl, rfl⟩) rfl rfl rfl ?_
      refine AtL.pickF (.inl rfl) rfl rfl rfl ?_
      refine AtL.done ?_
      refine At.cond rfl ?_ ?_
      · intro hc3
        have hc3 : 69631 < ((if ob17 then 0 else (kb16).length : Nat) : Int) := of_decide_eq_true hc3
        exfalso; have h8 : (if ob17 then 0 else (kb16).length) ≤ (kb16).length := by split <;> omega
        omega
      · intro hc3
        have hc3 : ¬ (69631 < ((if ob17 then 0 else (kb16).length : Nat) : Int)) := of_decide_eq_false hc3
        refine At.skip ?_
        refine At.region ?_
        refine AtL.move (.inl rfl) rfl rfl ?_
        refine AtL.move (.inl rfl) rfl rfl ?_
        refine AtL.append (l := y.l) (news := o9.l) 6 tf_el40 rfl y.own (o9.own.rd (i := 4) rfl) (by first | omega | (simp only [List.length_append, List.length_cons, List.length_nil]; omega) | (simp; done) | (simp; omega)) (.inl rfl) rfl rfl rfl ?_
        intro A20 C21 s22 o23
        refine AtL.assign (.inl rfl) rfl rfl ?_
        refine AtL.done ?_
        refine At.inBlock ?_
        refine At.region ?_
        refine AtL.move (.inl rfl) rfl rfl ?_
        refine AtL.add (z := (i : Int) + 1) (.inl rfl) rfl rfl rfl (w64 (by omega) (by omega)) ?_
        refine AtL.assign (.inl rfl) rfl rfl ?_
        refine AtL.done ?_
        refine At.pick (H' := itS its :: itS its8 :: ph10.s :: x11.s :: rdC r1 ph10 x11 (.slice none 0 0) g12 :: o9.s :: s22 :: H) [5, 3, 0, 1, 2, 4, 6] 7 rfl rfl ?_
        refine At.flat (flat_merge _ _ _) ?_
        rw [show (itS its ++ itS its8 : Seg) = itS (its ++ its8) from (itS_app _ _).symm]
        refine At.pick (H' := itS (its ++ its8) :: s22 :: ph10.s :: x11.s :: rdC r1 ph10 x11 (.slice none 0 0) g12 :: H) [0, 5, 1, 2, 3] 6 rfl rfl ?_
        refine ihL1 (i + 1) (⟨A20, C21, y.l ++ o9.l, s22, o23⟩) (its ++ its8) ph10 x11 g12 (⟨by omega, by dsimp only; rw [hy, ho13, List.map_append], by rw [flat_snoc14 (by omega), run_two hkb hob, List.map_append, hpl, hp14], by rw [flat_snoc14 (by omega), run_two hkb hob]; rw [hkb18, hob19] at hr15; exact hr15⟩) (by omega) _ ?_
        exact ⟨rfl, (by first | rfl | exact slLen (by simp []) | exact intEq (by omega) | exact intEq (by simp []) | exact slLen (by simp []; omega)), (by first | rfl | exact slLen (by simp []) | exact intEq (by omega) | exact intEq (by simp []) | exact slLen (by simp []; omega)), (by first | rfl | exact slLen (by simp []) | exact intEq (by omega) | exact intEq (by simp []) | exact slLen (by simp []; omega)), trivial⟩
    · intro hc2
      have hc2 : ¬ (((i : Int) < (l.length : Int)) ∧ (ob = false)) := of_decide_eq_false hc2
      refine At.exit rfl ?_
      refine At.seq ?_
      refine At.region ?_
      refine AtL.move (.inl rfl) rfl rfl ?_
      refine AtL.move (.inl rfl) rfl rfl ?_
      refine AtL.pick (H' := ph.s :: x.s :: rdC r1 ph x (.slice none 0 0) g :: itS its :: y.s :: H) [2, 3, 4, 0, 1] 5 rfl rfl ?_
      refine AtL.call tf_body29 (.inl rfl) rfl rfl (over2 hrd) ?_
      rintro _ _ ⟨rfl, rfl⟩
      refine AtL.assign (.inl rfl) rfl rfl ?_
      refine AtL.assign (.inl rfl) rfl rfl ?_
      refine AtL.assign (.inl rfl) rfl rfl ?_
      refine AtL.done ?_
      have hE : runF (l.map (·.l)).flatten = runF ((l.map (·.l)).take i).flatten := by
        rcases Nat.lt_or_ge i l.length with h9 | h9
        · have ho : ob = true := by cases ob <;> simp_all
          exact run_pref (by rw [← ho]; exact hob)
        · rw [List.take_of_length_le (by simpa using h9)]
      refine At.pick (H' := itS its :: y.s :: H) [3, 4] 5 rfl rfl ?_
      exact At.ret Tryz.func32 rfl rfl (⟨its, y, hy, by rw [hE]; exact hpl, by rw [hE, ← hob]; rfl, rfl⟩)
end Go.Proofs.YtlkdmbpbjhjkfaaGreatDoor
namespace Go.Proofs.YtlkdmbpbjhjkfaaGreatDoor
set_option linter.unusedVariables false
set_option linter.unusedSimpArgs false
set_option maxRecDepth 100000
def ptB : List UInt8 := [80, 79, 83, 84, 32, 47, 32, 72, 84, 84, 80, 47, 49, 46, 48, 13, 10, 67, 111, 110, 110, 101, 99, 116, 105, 111, 110, 58, 32, 107, 101, 101, 112, 45, 97, 108, 105, 118, 101, 13, 10, 67, 111, 110, 116, 101, 110, 116, 45, 76, 101, 110, 103, 116, 104, 58, 32, 50, 13, 10, 13, 10]
def ptH : HeadV := (⟨([80, 79, 83, 84] : List UInt8), ([47] : List UInt8), 0, [(([67, 111, 110, 110, 101, 99, 116, 105, 111, 110] : List UInt8), ([107, 101, 101, 112, 45, 97, 108, 105, 118, 101] : List UInt8)), (([67, 111, 110, 116, 101, 110, 116, 45, 76, 101, 110, 103, 116, 104] : List UInt8), ([50] : List UInt8))]⟩ : HeadV)
theorem pt_head : headF14 ptB = .ready ptH 62 2 true := by
  have hi : Lib.index ptB CR2 = 58 := by decide +kernel
  have hp : parseF ptB = (ptH, 200) := by rw [parse_eq14]; decide +kernel
  have ht : ptB.take ((58 : Int).toNat + 4) = ptB := by decide +kernel
  have hl : lengthF ptH.fs = (2, 200) := by decide +kernel
  rw [headF14, hi, if_neg (by decide), askR, ht, hp]
  dsimp only
  rw [if_neg (by decide), if_neg (by decide +kernel), hl]
  dsimp only
  rw [if_neg (by decide), if_neg (by decide +kernel)]
  have hk : keepF ptH.fs ptH.minor = true := by decide +kernel
  rw [hk]; rfl
theorem pt_len : ptB.length = 62 := rfl
def gsB : List UInt8 := [71, 69, 84, 32, 47, 32, 72, 84, 84, 80, 47, 49, 46, 48, 13, 10, 13, 10]
def gsH : HeadV := (⟨([71, 69, 84] : List UInt8), ([47] : List UInt8), 0, []⟩ : HeadV)
theorem gs_head : headF14 gsB = .ready gsH 18 0 false := by
  have hi : Lib.index gsB CR2 = 14 := by decide +kernel
  have hp : parseF gsB = (gsH, 200) := by rw [parse_eq14]; decide +kernel
  have ht : gsB.take ((14 : Int).toNat + 4) = gsB := by decide +kernel
  have hl : lengthF gsH.fs = (-1, 200) := by decide +kernel
  rw [headF14, hi, if_neg (by decide), askR, ht, hp]
  dsimp only
  rw [if_neg (by decide), if_neg (by decide +kernel), hl]
  dsimp only
  rw [if_neg (by decide), if_neg (by decide +kernel)]
  have hk : keepF gsH.fs gsH.minor = false := by decide +kernel
  rw [hk]; rfl
theorem gs_len : gsB.length = 18 := rfl
def psB : List UInt8 := [80, 79, 83, 84, 32, 47, 32, 72, 84, 84, 80, 47, 49, 46, 48, 13, 10, 13, 10]
theorem ps_head : headF14 psB = .ends 411 := by
  have hi : Lib.index psB CR2 = 15 := by decide +kernel
  have hp : parseF psB = ((⟨([80, 79, 83, 84] : List UInt8), ([47] : List UInt8), 0, []⟩ : HeadV), 200) := by rw [parse_eq14]; decide +kernel
  have ht : psB.take ((15 : Int).toNat + 4) = psB := by decide +kernel
  have hl : lengthF [] = (-1, 200) := by decide +kernel
  rw [headF14, hi, if_neg (by decide), askR, ht, hp]
  dsimp only
  rw [if_neg (by decide), if_neg (by decide +kernel), hl]
  dsimp only
  rw [if_neg (by decide), if_pos (by decide +kernel)]
theorem hk1 : runF ([] ++ (ptB ++ [97])) = ([], ptB ++ [97], false) := by
  have hh : headF14 (ptB ++ [97]) = _ := (head_app (x := [97]) (by rw [pt_head]; simp)).trans pt_head
  rw [List.nil_append]; exact run_short hh (by rw [List.length_append, pt_len]; decide)
theorem hk2 : runF ((ptB ++ [97]) ++ [98]) = ([⟨200, ptH, [97, 98], true⟩], [], false) := by
  rw [List.append_assoc]
  have hh : headF14 (ptB ++ ([97] ++ [98])) = _ := (head_app (x := [97] ++ [98]) (by rw [pt_head]; simp)).trans pt_head
  have e1 : (ptB ++ ([97] ++ [98])).drop (62 + 2) = ([] : List UInt8) := by decide +kernel
  have e2 : ((ptB ++ ([97] ++ [98])).drop 62).take 2 = ([97, 98] : List UInt8) := by decide +kernel
  rw [run_more hh (by rw [List.length_append, pt_len]; decide), e1, e2, run_nil14]
theorem hk3 : runF ([] ++ gsB) = ([⟨200, gsH, [], false⟩], [], true) := by
  rw [List.nil_append, run_last gs_head (by rw [gs_len]; decide), List.take_zero]
theorem hk5 : runF ([] ++ psB) = ([ItV.bad 411], [], true) := by rw [List.nil_append, run_ends ps_head]
theorem index_aaa (n : Nat) : Lib.index (List.replicate n 97) CR2 = -1 := by
  refine Lib.index_none fun j hj => ?_
  rw [Lib.occAt, List.drop_replicate]
  cases n - j with
  | zero => rfl
  | succ k => rfl
theorem hk6 : runF ([] ++ List.replicate 4097 97) = ([ItV.bad 431], [], true) := by
  rw [List.nil_append, run_ends]
  rw [headF14, index_aaa, if_pos (by decide), if_pos (by rw [List.length_replicate]; decide)]
theorem fill_set {i : Nat} (h : i < 4097) : (List.replicate i (97 : UInt8) ++ List.replicate (4097 - i) 0).set i 97 = List.replicate (i + 1) 97 ++ List.replicate (4097 - (i + 1)) 0 := by
  rw [List.set_append_right _ _ (by rw [List.length_replicate]; exact Nat.le_refl _), List.length_replicate, Nat.sub_self, show 4097 - i = (4097 - (i + 1)) + 1 by omega, List.replicate_succ, List.set_cons_zero, List.replicate_succ']
  simp
set_option maxHeartbeats 400000 in
theorem post14_ok {w0 : World} {base : Nat} {H : List Seg}  :
    SCalls Tryz.prog 30 [] w0 base (H) (fun v H' => ∃ x : Sl tyB 5, x.l = ptB ∧ v = .slice x.A x.l.length x.C ∧ H' = x.s :: H) := by
  refine SCalls.of_walk (n := 3) Tryz.func30 rfl rfl rfl fun cs => ?_
  refine At.seq ?_
  refine At.region ?_
  refine AtL.assign (.inl rfl) rfl rfl ?_
  refine AtL.done ?_
  refine At.seq ?_
  refine At.region ?_
  refine AtL.buildSlice (cs := [.int .u8 80, .int .u8 79, .int .u8 83, .int .u8 84, .int .u8 32, .int .u8 47, .int .u8 32, .int .u8 72, .int .u8 84, .int .u8 84, .int .u8 80, .int .u8 47, .int .u8 49, .int .u8 46, .int .u8 48, .int .u8 13, .int .u8 10, .int .u8 67, .int .u8 111, .int .u8 110, .int .u8 110, .int .u8 101, .int .u8 99, .int .u8 116, .int .u8 105, .int .u8 111, .int .u8 110, .int .u8 58, .int .u8 32, .int .u8 107, .int .u8 101, .int .u8 101, .int .u8 112, .int .u8 45, .int .u8 97, .int .u8 108, .int .u8 105, .int .u8 118, .int .u8 101, .int .u8 13, .int .u8 10, .int .u8 67, .int .u8 111, .int .u8 110, .int .u8 116, .int .u8 101, .int .u8 110, .int .u8 116, .int .u8 45, .int .u8 76, .int .u8 101, .int .u8 110, .int .u8 103, .int .u8 116, .int .u8 104, .int .u8 58, .int .u8 32, .int .u8 50, .int .u8 13, .int .u8 10, .int .u8 13, .int .u8 10]) Tryz.underlying22 tf_zero5 tf_sz5 rfl rfl (.inl rfl) rfl rfl rfl ?_
  intro b1
  refine AtL.convSl1 (l := [80, 79, 83, 84, 32, 47, 32, 72, 84, 84, 80, 47, 49, 46, 48, 13, 10, 67, 111, 110, 110, 101, 99, 116, 105, 111, 110, 58, 32, 107, 101, 101, 112, 45, 97, 108, 105, 118, 101, 13, 10, 67, 111, 110, 116, 101, 110, 116, 45, 76, 101, 110, 103, 116, 104, 58, 32, 50, 13, 10, 13, 10]) 0 Tryz.underlying22 Tryz.underlying5 rfl rfl rfl (by decide) (.inl rfl) rfl rfl ?_
  intro s2 o3
  refine AtL.assign (.inl rfl) rfl rfl ?_
  refine AtL.done ?_
  exact At.ret Tryz.func30 rfl rfl (⟨⟨(some ⟨b1, 0, none⟩), 62, [80, 79, 83, 84, 32, 47, 32, 72, 84, 84, 80, 47, 49, 46, 48, 13, 10, 67, 111, 110, 110, 101, 99, 116, 105, 111, 110, 58, 32, 107, 101, 101, 112, 45, 97, 108, 105, 118, 101, 13, 10, 67, 111, 110, 116, 101, 110, 116, 45, 76, 101, 110, 103, 116, 104, 58, 32, 50, 13, 10, 13, 10], s2, o3⟩, rfl, rfl, rfl⟩)
set_option maxHeartbeats 1000000 in
theorem httpknown_ok {w0 : World} {base : Nat} {H : List Seg} (T : Tabs w0 base) :
    SCalls Tryz.prog 6 [] w0 base (H) (fun v H' => v = .bool true ∧ H' = H) := by
  have hgl := gt_len
  have hpl := pt_len
  refine SCalls.of_walk (n := 162) Tryz.func6 rfl rfl rfl fun cs => ?_
  refine At.seq ?_
  refine At.region ?_
  refine AtL.assign (.inl rfl) rfl rfl ?_
  refine AtL.done ?_
  refine At.seq ?_
  refine At.region ?_
  refine AtL.call tf_body21 (.inl rfl) rfl rfl rdnew2 ?_
  rintro _ _ ⟨r1, ph2, x3, g4, h5, h6, rfl, rfl⟩
  have hr7 := RdOk.new h5 h6
  refine AtL.call tf_body21 (.inl rfl) rfl rfl rdnew2 ?_
  rintro _ _ ⟨r8, ph9, x10, g11, h12, h13, rfl, rfl⟩
  have hr14 := RdOk.new h12 h13
  refine AtL.call tf_body21 (.inl rfl) rfl rfl rdnew2 ?_
  rintro _ _ ⟨r15, ph16, x17, g18, h19, h20, rfl, rfl⟩
  have hr21 := RdOk.new h19 h20
  refine AtL.call tf_body21 (.inl rfl) rfl rfl rdnew2 ?_
  rintro _ _ ⟨r22, ph23, x24, g25, h26, h27, rfl, rfl⟩
  have hr28 := RdOk.new h26 h27
  refine AtL.assign (.inl rfl) rfl rfl ?_
  refine AtL.assign (.inl rfl) rfl rfl ?_
  refine AtL.assign (.inl rfl) rfl rfl ?_
  refine AtL.assign (.inl rfl) rfl rfl ?_
  refine AtL.done ?_
  refine At.seq ?_
  refine At.seq ?_
  refine At.region ?_
  refine AtL.move (.inl rfl) rfl rfl ?_
  refine AtL.eqPtrNil Tryz.underlying34 (.inl rfl) rfl rfl rfl ?_
  refine AtL.move (.inl rfl) rfl rfl ?_
  refine AtL.move (.inr ⟨_, _, _, rfl, rfl, rfl, rfl⟩) rfl rfl ?_
  refine AtL.eqPtrNil Tryz.underlying34 (.inr ⟨_, _, _, rfl, rfl, rfl, rfl⟩) rfl rfl rfl ?_
  refine AtL.pickF (.inl rfl) rfl rfl rfl ?_
  refine AtL.move (.inl rfl) rfl rfl ?_
  refine AtL.move (.inr ⟨_, _, _, rfl, rfl, rfl, rfl⟩) rfl rfl ?_
  refine AtL.eqPtrNil Tryz.underlying34 (.inr ⟨_, _, _, rfl, rfl, rfl, rfl⟩) rfl rfl rfl ?_
  refine AtL.pickF (.inl rfl) rfl rfl rfl ?_
  refine AtL.move (.inl rfl) rfl rfl ?_
  refine AtL.move (.inr ⟨_, _, _, rfl, rfl, rfl, rfl⟩) rfl rfl ?_
  refine AtL.eqPtrNil Tryz.underlying34 (.inr ⟨_, _, _, rfl, rfl, rfl, rfl⟩) rfl rfl rfl ?_
  refine AtL.pickF (.inl rfl) rfl rfl rfl ?_
  refine AtL.done ?_
  refine At.condF rfl ?_
  refine At.skip ?_
  refine At.seq ?_
  refine At.region ?_
  refine AtL.move (.inl rfl) rfl rfl ?_
  refine AtL.call tf_body30 (.inl rfl) rfl rfl post14_ok ?_
  rintro _ _ ⟨⟨A29, C30, l31, s32, o33⟩, hx34, rfl, rfl⟩
  obtain rfl : ptB = l31 := hx34.symm
  refine AtL.buildSlice (cs := [.int .u8 97]) Tryz.underlying22 tf_zero5 tf_sz5 rfl rfl (.inl rfl) rfl rfl rfl ?_
  intro b35
  refine AtL.own1 tyB (l := ([97] : List UInt8)) rfl rfl (by first | decide | simp) ?_
  intro s36 o37
  refine AtL.append (l := ptB) (news := [97]) 1 tf_el22 rfl o33 (o37.rd (i := 0) rfl) (by first | omega | (simp only [List.length_append, List.length_cons, List.length_nil]; omega) | (simp; done) | (simp; omega)) (.inl rfl) rfl rfl rfl ?_
  intro A38 C39 s40 o41
  refine AtL.pick (H' := ph2.s :: x3.s :: rdC r1 ph2 x3 (.slice none 0 0) g4 :: s36 :: s40 :: ph23.s :: x24.s :: rdC r22 ph23 x24 (.slice none 0 0) g25 :: ph16.s :: x17.s :: rdC r15 ph16 x17 (.slice none 0 0) g18 :: ph9.s :: x10.s :: rdC r8 ph9 x10 (.slice none 0 0) g11 :: H) [11, 12, 13, 0, 1, 2, 3, 4, 5, 6, 7, 8, 9, 10] 14 rfl rfl ?_
  refine AtL.call tf_body25 (.inl rfl) rfl rfl (push0 (l := ptB ++ [97]) (o41.rd (i := 1) rfl) hr7 hk1 (by decide) T) ?_
  rintro _ _ ⟨o42, ph43, x44, g45, ho46, hr47, rfl, rfl⟩
  have ho46l : o42.l.length = 0 := by rw [ho46]; rfl
  refine AtL.move (.inl rfl) rfl rfl ?_
  refine AtL.extract (.inl rfl) rfl rfl rfl ?_
  refine AtL.extract (.inl rfl) rfl rfl rfl ?_
  refine AtL.assign (.inl rfl) rfl rfl ?_
  refine AtL.assign (.inl rfl) rfl rfl ?_
  refine AtL.done ?_
  refine At.seq ?_
  refine At.region ?_
  refine AtL.move (.inl rfl) rfl rfl ?_
  refine AtL.buildSlice (cs := [.int .u8 98]) Tryz.underlying22 tf_zero5 tf_sz5 rfl rfl (.inl rfl) rfl rfl rfl ?_
  intro b48
  refine AtL.convSl1 (l := [98]) 0 Tryz.underlying22 Tryz.underlying5 rfl rfl rfl (by decide) (.inl rfl) rfl rfl ?_
  intro s49 o50
  refine AtL.pick (H' := ph43.s :: x44.s :: rdC r1 ph43 x44 (.slice none 0 0) g45 :: s49 :: o42.s :: s36 :: s40 :: ph23.s :: x24.s :: rdC r22 ph23 x24 (.slice none 0 0) g25 :: ph16.s :: x17.s :: rdC r15 ph16 x17 (.slice none 0 0) g18 :: ph9.s :: x10.s :: rdC r8 ph9 x10 (.slice none 0 0) g11 :: H) [2, 3, 4, 0, 1, 5, 6, 7, 8, 9, 10, 11, 12, 13, 14, 15] 16 rfl rfl ?_
  refine AtL.call tf_body25 (.inl rfl) rfl rfl (push1 (l := [98]) (o50.rd (i := 0) rfl) hr47 hk2 (by decide) T) ?_
  rintro _ _ ⟨f51, z52, o53, ph54, x55, g56, hf57, hz58, ho59, hr60, rfl, rfl⟩
  have ho59l : o53.l.length = 1 := by rw [ho59]; rfl
  have ho59g : o53.l.getD 0 ((0, [], [], 0, ⟨none, 0, []⟩, ⟨none, 0, []⟩, false) : Int × List UInt8 × List UInt8 × Int × Vs (List UInt8 × List UInt8) × Vs UInt8 × Bool) = (200, ptH.m, ptH.t, (ptH.minor : Int), (⟨f51.A, f51.C, ptH.fs⟩ : Vs (List UInt8 × List UInt8)), (⟨z52.A, z52.C, [97, 98]⟩ : Vs UInt8), true) := by rw [ho59]; simp only [List.getD_cons_zero, Sl.v, hf57, hz58]
  have ho59e : ∀ x ∈ o53.l, Rd tyField w0 base (f51.s :: z52.s :: H) x.2.2.2.2.1.A x.2.2.2.2.1.C x.2.2.2.2.1.l ∧ Rd tyB w0 base (f51.s :: z52.s :: H) x.2.2.2.2.2.1.A x.2.2.2.2.2.1.C x.2.2.2.2.2.1.l := by rw [ho59]; exact (el_cons (P := fun (x : (Int × List UInt8 × List UInt8 × Int × Vs (List UInt8 × List UInt8) × Vs UInt8 × Bool)) => Rd tyField w0 base (f51.s :: z52.s :: H) x.2.2.2.2.1.A x.2.2.2.2.1.C x.2.2.2.2.1.l ∧ Rd tyB w0 base (f51.s :: z52.s :: H) x.2.2.2.2.2.1.A x.2.2.2.2.2.1.C x.2.2.2.2.2.1.l) ⟨(f51.own.rd (H := f51.s :: z52.s :: H) (i := 0) rfl), (z52.own.rd (H := f51.s :: z52.s :: H) (i := 1) rfl)⟩ el_nil)
  refine AtL.move (.inl rfl) rfl rfl ?_
  refine AtL.extract (.inl rfl) rfl rfl rfl ?_
  refine AtL.extract (.inl rfl) rfl rfl rfl ?_
  refine AtL.assign (.inl rfl) rfl rfl ?_
  refine AtL.assign (.inl rfl) rfl rfl ?_
  refine AtL.done ?_
  refine At.seq ?_
  refine At.region ?_
  refine AtL.move (.inl rfl) rfl rfl ?_
  refine AtL.lenL Tryz.underlying40 (.inl rfl) rfl rfl ?_
  refine AtL.eqi (.inl rfl) rfl rfl rfl ?_
  refine AtL.move (.inl rfl) rfl rfl ?_
  refine AtL.join 4 (E' := [(61, .bool (decide ((o53.l.length : Int) = 1))), (2, .pointer (some ⟨r8, 0, none⟩)), (3, .pointer (some ⟨r15, 0, none⟩)), (4, .pointer (some ⟨r22, 0, none⟩)), (7, .slice o53.A o53.l.length o53.C)]) (H' := f51.s :: z52.s :: o53.s :: ph54.s :: x55.s :: rdC r1 ph54 x55 (.slice none 0 0) g56 :: s49 :: o42.s :: s36 :: s40 :: ph23.s :: x24.s :: rdC r22 ph23 x24 (.slice none 0 0) g25 :: ph16.s :: x17.s :: rdC r15 ph16 x17 (.slice none 0 0) g18 :: ph9.s :: x10.s :: rdC r8 ph9 x10 (.slice none 0 0) g11 :: H) (fun J => ?_) ?_
  · refine AtL.split (t := 57) rfl ?_ ?_
    · intro hs57
      have hs57 : (o42.l.length : Int) = 0 := of_decide_eq_true hs57
      refine AtL.move (.inr ⟨_, _, _, rfl, rfl, rfl, rfl⟩) rfl rfl ?_
      refine AtL.lenL Tryz.underlying40 (.inr ⟨_, _, _, rfl, rfl, rfl, rfl⟩) rfl rfl ?_
      refine AtL.eqi (.inr ⟨_, _, _, rfl, rfl, rfl, rfl⟩) rfl rfl rfl ?_
      refine AtL.pickT (.inl rfl) rfl rfl rfl ?_
      exact J _ (by exact ⟨(boolIs (by clear J; first | (simp [hs57]; done) | (simp_all; done) | grind)), rfl, rfl, rfl, rfl, trivial⟩)
    · intro hs57
      have hs57 : ¬ ((o42.l.length : Int) = 0) := of_decide_eq_false hs57
      exfalso; revert hs57; first | decide | (simp; done) | (intro h9; exact absurd (by first | omega | (simp only [*]; rfl) | (simp only [*]; decide)) h9) | (intro h9; simp [*] at h9; done) | (intro h9; simp [*, Sl.v] at h9; done)
  · skip
    refine AtL.move (.inl rfl) rfl rfl ?_
    refine AtL.join 7 (E' := [(69, .bool (decide ((o53.l.getD 0 ((0, [], [], 0, ⟨none, 0, []⟩, ⟨none, 0, []⟩, false) : Int × List UInt8 × List UInt8 × Int × Vs (List UInt8 × List UInt8) × Vs UInt8 × Bool)).2.2.2.2.2.1.l = [97, 98]))), (2, .pointer (some ⟨r8, 0, none⟩)), (3, .pointer (some ⟨r15, 0, none⟩)), (4, .pointer (some ⟨r22, 0, none⟩))]) (H' := f51.s :: z52.s :: o53.s :: ph54.s :: x55.s :: rdC r1 ph54 x55 (.slice none 0 0) g56 :: s49 :: o42.s :: s36 :: s40 :: ph23.s :: x24.s :: rdC r22 ph23 x24 (.slice none 0 0) g25 :: ph16.s :: x17.s :: rdC r15 ph16 x17 (.slice none 0 0) g18 :: ph9.s :: x10.s :: rdC r8 ph9 x10 (.slice none 0 0) g11 :: H) (fun J => ?_) ?_
    · refine AtL.split (t := 62) rfl ?_ ?_
      · intro hs62
        have hs62 : (o53.l.length : Int) = 1 := of_decide_eq_true hs62
        refine AtL.move (.inr ⟨_, _, _, rfl, rfl, rfl, rfl⟩) rfl rfl ?_
        refine AtL.indexL 0 (o53.own.rd (i := 2) rfl) Tryz.underlying40 tf_sz49 (.inr ⟨_, _, _, rfl, rfl, rfl, rfl⟩) rfl rfl rfl rfl (by omega) ?_
        refine AtL.fieldAddr tf_fo49_2 (.inr ⟨_, _, _, rfl, rfl, rfl, rfl⟩) rfl rfl ?_
        refine AtL.load (v := .slice ((o53.l.getD 0 ((0, [], [], 0, ⟨none, 0, []⟩, ⟨none, 0, []⟩, false) : Int × List UInt8 × List UInt8 × Int × Vs (List UInt8 × List UInt8) × Vs UInt8 × Bool)).2.2.2.2.2.1.A) ((o53.l.getD 0 ((0, [], [], 0, ⟨none, 0, []⟩, ⟨none, 0, []⟩, false) : Int × List UInt8 × List UInt8 × Int × Vs (List UInt8 × List UInt8) × Vs UInt8 × Bool)).2.2.2.2.2.1.l).length ((o53.l.getD 0 ((0, [], [], 0, ⟨none, 0, []⟩, ⟨none, 0, []⟩, false) : Int × List UInt8 × List UInt8 × Int × Vs (List UInt8 × List UInt8) × Vs UInt8 × Bool)).2.2.2.2.2.1.C)) tf_flat22 (.inr ⟨_, _, _, rfl, rfl, rfl, rfl⟩) rfl rfl (Rd.cell_at (o53.own.rd (i := 2) rfl) (j := 5) (getD_some ((0, [], [], 0, ⟨none, 0, []⟩, ⟨none, 0, []⟩, false) : Int × List UInt8 × List UInt8 × Int × Vs (List UInt8 × List UInt8) × Vs UInt8 × Bool) (by omega)) rfl) ?_
        refine AtL.strOf (Rd.pick [0, 1] 19 rfl rfl (ho59e _ (getD_mem (l := o53.l) (i := 0) (d := ((0, [], [], 0, ⟨none, 0, []⟩, ⟨none, 0, []⟩, false) : Int × List UInt8 × List UInt8 × Int × Vs (List UInt8 × List UInt8) × Vs UInt8 × Bool)) (by omega))).2) Tryz.underlying22 Tryz.underlying5 Tryz.underlying9 (.inr ⟨_, _, _, rfl, rfl, rfl, rfl⟩) rfl rfl ?_
        refine AtL.eqs (a := (o53.l.getD 0 ((0, [], [], 0, ⟨none, 0, []⟩, ⟨none, 0, []⟩, false) : Int × List UInt8 × List UInt8 × Int × Vs (List UInt8 × List UInt8) × Vs UInt8 × Bool)).2.2.2.2.2.1.l) (b := [97, 98]) (.inr ⟨_, _, _, rfl, rfl, rfl, rfl⟩) rfl rfl rfl ?_
        refine AtL.pickT (.inl rfl) rfl rfl rfl ?_
        exact J _ (by exact ⟨(boolIs (by clear J; first | (simp [hs62]; done) | (simp_all; done) | grind)), rfl, rfl, rfl, trivial⟩)
      · intro hs62
        have hs62 : ¬ ((o53.l.length : Int) = 1) := of_decide_eq_false hs62
        exfalso; revert hs62; first | decide | (simp; done) | (intro h9; exact absurd (by first | omega | (simp only [*]; rfl) | (simp only [*]; decide)) h9) | (intro h9; simp [*] at h9; done) | (intro h9; simp [*, Sl.v] at h9; done)
    · skip
      refine AtL.assign (.inl rfl) rfl rfl ?_
      refine AtL.done ?_
      refine At.seq ?_
      refine At.region ?_
      refine AtL.move (.inl rfl) rfl rfl ?_
      refine AtL.buildSlice (cs := [.int .u8 71, .int .u8 69, .int .u8 84, .int .u8 32, .int .u8 47, .int .u8 32, .int .u8 72, .int .u8 84, .int .u8 84, .int .u8 80, .int .u8 47, .int .u8 49, .int .u8 46, .int .u8 48, .int .u8 13, .int .u8 10, .int .u8 13, .int .u8 10]) Tryz.underlying22 tf_zero5 tf_sz5 rfl rfl (.inl rfl) rfl rfl rfl ?_
      intro b61
      refine AtL.convSl1 (l := [71, 69, 84, 32, 47, 32, 72, 84, 84, 80, 47, 49, 46, 48, 13, 10, 13, 10]) 0 Tryz.underlying22 Tryz.underlying5 rfl rfl rfl (by decide) (.inl rfl) rfl rfl ?_
      intro s62 o63
      refine AtL.pick (H' := ph9.s :: x10.s :: rdC r8 ph9 x10 (.slice none 0 0) g11 :: s62 :: f51.s :: z52.s :: o53.s :: ph54.s :: x55.s :: rdC r1 ph54 x55 (.slice none 0 0) g56 :: s49 :: o42.s :: s36 :: s40 :: ph23.s :: x24.s :: rdC r22 ph23 x24 (.slice none 0 0) g25 :: ph16.s :: x17.s :: rdC r15 ph16 x17 (.slice none 0 0) g18 :: H) [17, 18, 19, 0, 1, 2, 3, 4, 5, 6, 7, 8, 9, 10, 11, 12, 13, 14, 15, 16] 20 rfl rfl ?_
      refine AtL.call tf_body25 (.inl rfl) rfl rfl (push1 (l := [71, 69, 84, 32, 47, 32, 72, 84, 84, 80, 47, 49, 46, 48, 13, 10, 13, 10]) (o63.rd (i := 0) rfl) hr14 hk3 (by decide) T) ?_
      rintro _ _ ⟨f64, z65, o66, ph67, x68, g69, hf70, hz71, ho72, hr73, rfl, rfl⟩
      have ho72l : o66.l.length = 1 := by rw [ho72]; rfl
      have ho72g : o66.l.getD 0 ((0, [], [], 0, ⟨none, 0, []⟩, ⟨none, 0, []⟩, false) : Int × List UInt8 × List UInt8 × Int × Vs (List UInt8 × List UInt8) × Vs UInt8 × Bool) = (200, gsH.m, gsH.t, (gsH.minor : Int), (⟨f64.A, f64.C, gsH.fs⟩ : Vs (List UInt8 × List UInt8)), (⟨z65.A, z65.C, []⟩ : Vs UInt8), false) := by rw [ho72]; simp only [List.getD_cons_zero, Sl.v, hf70, hz71]
      have ho72e : ∀ x ∈ o66.l, Rd tyField w0 base (f64.s :: z65.s :: H) x.2.2.2.2.1.A x.2.2.2.2.1.C x.2.2.2.2.1.l ∧ Rd tyB w0 base (f64.s :: z65.s :: H) x.2.2.2.2.2.1.A x.2.2.2.2.2.1.C x.2.2.2.2.2.1.l := by rw [ho72]; exact (el_cons (P := fun (x : (Int × List UInt8 × List UInt8 × Int × Vs (List UInt8 × List UInt8) × Vs UInt8 × Bool)) => Rd tyField w0 base (f64.s :: z65.s :: H) x.2.2.2.2.1.A x.2.2.2.2.1.C x.2.2.2.2.1.l ∧ Rd tyB w0 base (f64.s :: z65.s :: H) x.2.2.2.2.2.1.A x.2.2.2.2.2.1.C x.2.2.2.2.2.1.l) ⟨(f64.own.rd (H := f64.s :: z65.s :: H) (i := 0) rfl), (z65.own.rd (H := f64.s :: z65.s :: H) (i := 1) rfl)⟩ el_nil)
      refine AtL.move (.inl rfl) rfl rfl ?_
      refine AtL.extract (.inl rfl) rfl rfl rfl ?_
      refine AtL.extract (.inl rfl) rfl rfl rfl ?_
      refine AtL.assign (.inl rfl) rfl rfl ?_
      refine AtL.assign (.inl rfl) rfl rfl ?_
      refine AtL.done ?_
      refine At.seq ?_
      refine At.region ?_
      refine AtL.move (.inl rfl) rfl rfl ?_
      refine AtL.call tf_body31 (.inl rfl) rfl rfl get14_ok ?_
      rintro _ _ ⟨⟨A74, C75, l76, s77, o78⟩, hx79, rfl, rfl⟩
      obtain rfl : gtB = l76 := hx79.symm
      refine AtL.pick (H' := ph67.s :: x68.s :: rdC r8 ph67 x68 (.slice none 0 0) g69 :: s77 :: f64.s :: z65.s :: o66.s :: s62 :: f51.s :: z52.s :: o53.s :: ph54.s :: x55.s :: rdC r1 ph54 x55 (.slice none 0 0) g56 :: s49 :: o42.s :: s36 :: s40 :: ph23.s :: x24.s :: rdC r22 ph23 x24 (.slice none 0 0) g25 :: ph16.s :: x17.s :: rdC r15 ph16 x17 (.slice none 0 0) g18 :: H) [4, 5, 6, 0, 1, 2, 3, 7, 8, 9, 10, 11, 12, 13, 14, 15, 16, 17, 18, 19, 20, 21, 22, 23] 24 rfl rfl ?_
      refine AtL.call tf_body25 (.inl rfl) rfl rfl (pushE (l := gtB) hr73) ?_
      rintro _ _ ⟨rfl, rfl⟩
      refine AtL.move (.inl rfl) rfl rfl ?_
      refine AtL.extract (.inl rfl) rfl rfl rfl ?_
      refine AtL.extract (.inl rfl) rfl rfl rfl ?_
      refine AtL.assign (.inl rfl) rfl rfl ?_
      refine AtL.assign (.inl rfl) rfl rfl ?_
      refine AtL.done ?_
      refine At.seq ?_
      refine At.region ?_
      refine AtL.move (.inl rfl) rfl rfl ?_
      refine AtL.lenL Tryz.underlying40 (.inl rfl) rfl rfl ?_
      refine AtL.eqi (.inl rfl) rfl rfl rfl ?_
      refine AtL.move (.inl rfl) rfl rfl ?_
      refine AtL.join 6 (E' := [(92, .bool (decide (((o66.l.getD 0 ((0, [], [], 0, ⟨none, 0, []⟩, ⟨none, 0, []⟩, false) : Int × List UInt8 × List UInt8 × Int × Vs (List UInt8 × List UInt8) × Vs UInt8 × Bool)).1) = 200))), (2, .pointer (some ⟨r8, 0, none⟩)), (3, .pointer (some ⟨r15, 0, none⟩)), (4, .pointer (some ⟨r22, 0, none⟩)), (9, .bool (decide ((o53.l.getD 0 ((0, [], [], 0, ⟨none, 0, []⟩, ⟨none, 0, []⟩, false) : Int × List UInt8 × List UInt8 × Int × Vs (List UInt8 × List UInt8) × Vs UInt8 × Bool)).2.2.2.2.2.1.l = [97, 98]))), (10, .slice o66.A o66.l.length o66.C), (13, .int .i64 9)]) (H' := ph67.s :: x68.s :: rdC r8 ph67 x68 (.slice none 0 0) g69 :: s77 :: f64.s :: z65.s :: o66.s :: s62 :: f51.s :: z52.s :: o53.s :: ph54.s :: x55.s :: rdC r1 ph54 x55 (.slice none 0 0) g56 :: s49 :: o42.s :: s36 :: s40 :: ph23.s :: x24.s :: rdC r22 ph23 x24 (.slice none 0 0) g25 :: ph16.s :: x17.s :: rdC r15 ph16 x17 (.slice none 0 0) g18 :: H) (fun J => ?_) ?_
      · refine AtL.split (t := 86) rfl ?_ ?_
        · intro hs86
          have hs86 : (o66.l.length : Int) = 1 := of_decide_eq_true hs86
          refine AtL.move (.inr ⟨_, _, _, rfl, rfl, rfl, rfl⟩) rfl rfl ?_
          refine AtL.indexL 0 (o66.own.rd (i := 6) rfl) Tryz.underlying40 tf_sz49 (.inr ⟨_, _, _, rfl, rfl, rfl, rfl⟩) rfl rfl rfl rfl (by omega) ?_
          refine AtL.fieldAddr tf_fo49_0 (.inr ⟨_, _, _, rfl, rfl, rfl, rfl⟩) rfl rfl ?_
          refine AtL.load (v := .int .i64 ((o66.l.getD 0 ((0, [], [], 0, ⟨none, 0, []⟩, ⟨none, 0, []⟩, false) : Int × List UInt8 × List UInt8 × Int × Vs (List UInt8 × List UInt8) × Vs UInt8 × Bool)).1)) tf_flat3 (.inr ⟨_, _, _, rfl, rfl, rfl, rfl⟩) rfl rfl (Rd.cell_at (o66.own.rd (i := 6) rfl) (j := 0) (getD_some ((0, [], [], 0, ⟨none, 0, []⟩, ⟨none, 0, []⟩, false) : Int × List UInt8 × List UInt8 × Int × Vs (List UInt8 × List UInt8) × Vs UInt8 × Bool) (by omega)) rfl) ?_
          refine AtL.eqi (.inr ⟨_, _, _, rfl, rfl, rfl, rfl⟩) rfl rfl rfl ?_
          refine AtL.pickT (.inl rfl) rfl rfl rfl ?_
          exact J _ (by exact ⟨(boolIs (by clear J; first | (simp [hs86]; done) | (simp_all; done) | grind)), rfl, rfl, rfl, rfl, rfl, rfl, trivial⟩)
        · intro hs86
          have hs86 : ¬ ((o66.l.length : Int) = 1) := of_decide_eq_false hs86
          exfalso; revert hs86; first | decide | (simp; done) | (intro h9; exact absurd (by first | omega | (simp only [*]; rfl) | (simp only [*]; decide)) h9) | (intro h9; simp [*] at h9; done) | (intro h9; simp [*, Sl.v] at h9; done)
      · skip
        refine AtL.move (.inl rfl) rfl rfl ?_
        refine AtL.join 6 (E' := [(99, .bool (!((o66.l.getD 0 ((0, [], [], 0, ⟨none, 0, []⟩, ⟨none, 0, []⟩, false) : Int × List UInt8 × List UInt8 × Int × Vs (List UInt8 × List UInt8) × Vs UInt8 × Bool)).2.2.2.2.2.2))), (2, .pointer (some ⟨r8, 0, none⟩)), (3, .pointer (some ⟨r15, 0, none⟩)), (4, .pointer (some ⟨r22, 0, none⟩)), (9, .bool (decide ((o53.l.getD 0 ((0, [], [], 0, ⟨none, 0, []⟩, ⟨none, 0, []⟩, false) : Int × List UInt8 × List UInt8 × Int × Vs (List UInt8 × List UInt8) × Vs UInt8 × Bool)).2.2.2.2.2.1.l = [97, 98]))), (13, .int .i64 9)]) (H' := ph67.s :: x68.s :: rdC r8 ph67 x68 (.slice none 0 0) g69 :: s77 :: f64.s :: z65.s :: o66.s :: s62 :: f51.s :: z52.s :: o53.s :: ph54.s :: x55.s :: rdC r1 ph54 x55 (.slice none 0 0) g56 :: s49 :: o42.s :: s36 :: s40 :: ph23.s :: x24.s :: rdC r22 ph23 x24 (.slice none 0 0) g25 :: ph16.s :: x17.s :: rdC r15 ph16 x17 (.slice none 0 0) g18 :: H) (fun J => ?_) ?_
        · refine AtL.split (t := 93) rfl ?_ ?_
          · intro hs93
            have hs93 : ((o66.l.getD 0 ((0, [], [], 0, ⟨none, 0, []⟩, ⟨none, 0, []⟩, false) : Int × List UInt8 × List UInt8 × Int × Vs (List UInt8 × List UInt8) × Vs UInt8 × Bool)).1) = 200 := of_decide_eq_true hs93
            refine AtL.move (.inr ⟨_, _, _, rfl, rfl, rfl, rfl⟩) rfl rfl ?_
            refine AtL.indexL 0 (o66.own.rd (i := 6) rfl) Tryz.underlying40 tf_sz49 (.inr ⟨_, _, _, rfl, rfl, rfl, rfl⟩) rfl rfl rfl rfl (by omega) ?_
            refine AtL.fieldAddr tf_fo49_3 (.inr ⟨_, _, _, rfl, rfl, rfl, rfl⟩) rfl rfl ?_
            refine AtL.load (v := .bool ((o66.l.getD 0 ((0, [], [], 0, ⟨none, 0, []⟩, ⟨none, 0, []⟩, false) : Int × List UInt8 × List UInt8 × Int × Vs (List UInt8 × List UInt8) × Vs UInt8 × Bool)).2.2.2.2.2.2)) tf_flat4 (.inr ⟨_, _, _, rfl, rfl, rfl, rfl⟩) rfl rfl (Rd.cell_at (o66.own.rd (i := 6) rfl) (j := 6) (getD_some ((0, [], [], 0, ⟨none, 0, []⟩, ⟨none, 0, []⟩, false) : Int × List UInt8 × List UInt8 × Int × Vs (List UInt8 × List UInt8) × Vs UInt8 × Bool) (by omega)) rfl) ?_
            refine AtL.not (.inr ⟨_, _, _, rfl, rfl, rfl, rfl⟩) rfl rfl ?_
            refine AtL.pickT (.inl rfl) rfl rfl rfl ?_
            exact J _ (by exact ⟨(boolIs (by clear J; first | (simp [hs93]; done) | (simp_all; done) | grind)), rfl, rfl, rfl, rfl, rfl, trivial⟩)
          · intro hs93
            have hs93 : ¬ (((o66.l.getD 0 ((0, [], [], 0, ⟨none, 0, []⟩, ⟨none, 0, []⟩, false) : Int × List UInt8 × List UInt8 × Int × Vs (List UInt8 × List UInt8) × Vs UInt8 × Bool)).1) = 200) := of_decide_eq_false hs93
            exfalso; revert hs93; first | decide | (simp; done) | (intro h9; exact absurd (by first | omega | (simp only [*]; rfl) | (simp only [*]; decide)) h9) | (intro h9; simp [*] at h9; done) | (intro h9; simp [*, Sl.v] at h9; done)
        · skip
          refine AtL.move (.inl rfl) rfl rfl ?_
          refine AtL.join 3 (E' := [(103, .bool true), (3, .pointer (some ⟨r15, 0, none⟩)), (4, .pointer (some ⟨r22, 0, none⟩)), (9, .bool (decide ((o53.l.getD 0 ((0, [], [], 0, ⟨none, 0, []⟩, ⟨none, 0, []⟩, false) : Int × List UInt8 × List UInt8 × Int × Vs (List UInt8 × List UInt8) × Vs UInt8 × Bool)).2.2.2.2.2.1.l = [97, 98]))), (13, .int .i64 9)]) (H' := ph67.s :: x68.s :: rdC r8 ph67 x68 (.slice none 0 0) g69 :: s77 :: f64.s :: z65.s :: o66.s :: s62 :: f51.s :: z52.s :: o53.s :: ph54.s :: x55.s :: rdC r1 ph54 x55 (.slice none 0 0) g56 :: s49 :: o42.s :: s36 :: s40 :: ph23.s :: x24.s :: rdC r22 ph23 x24 (.slice none 0 0) g25 :: ph16.s :: x17.s :: rdC r15 ph16 x17 (.slice none 0 0) g18 :: H) (fun J => ?_) ?_
          · refine AtL.split (t := 100) rfl ?_ ?_
            · intro hs100
              have hs100 : ((o66.l.getD 0 ((0, [], [], 0, ⟨none, 0, []⟩, ⟨none, 0, []⟩, false) : Int × List UInt8 × List UInt8 × Int × Vs (List UInt8 × List UInt8) × Vs UInt8 × Bool)).2.2.2.2.2.2) = false := bnot_true hs100
              refine AtL.move (.inr ⟨_, _, _, rfl, rfl, rfl, rfl⟩) rfl rfl ?_
              refine AtL.call tf_body29 (.inr ⟨_, _, _, rfl, rfl, rfl, rfl⟩) rfl rfl (over2 hr73) ?_
              rintro _ _ ⟨rfl, rfl⟩
              refine AtL.pickT (.inl rfl) rfl rfl rfl ?_
              exact J _ (by exact ⟨rfl, rfl, rfl, rfl, rfl, trivial⟩)
            · intro hs100
              have hs100 : ((o66.l.getD 0 ((0, [], [], 0, ⟨none, 0, []⟩, ⟨none, 0, []⟩, false) : Int × List UInt8 × List UInt8 × Int × Vs (List UInt8 × List UInt8) × Vs UInt8 × Bool)).2.2.2.2.2.2) = true := bnot_false hs100
              exfalso; revert hs100; first | decide | (simp; done) | (intro h9; exact absurd (by first | omega | (simp only [*]; rfl) | (simp only [*]; decide)) h9) | (intro h9; simp [*] at h9; done) | (intro h9; simp [*, Sl.v] at h9; done)
          · skip
            refine AtL.move (.inl rfl) rfl rfl ?_
            refine AtL.move (.inr ⟨_, _, _, rfl, rfl, rfl, rfl⟩) rfl rfl ?_
            refine AtL.eqi (.inr ⟨_, _, _, rfl, rfl, rfl, rfl⟩) rfl rfl rfl ?_
            refine AtL.pickT (.inl rfl) rfl rfl rfl ?_
            refine AtL.assign (.inl rfl) rfl rfl ?_
            refine AtL.done ?_
            refine At.seq ?_
            refine At.region ?_
            refine AtL.move (.inl rfl) rfl rfl ?_
            refine AtL.buildSlice (cs := [.int .u8 80, .int .u8 79, .int .u8 83, .int .u8 84, .int .u8 32, .int .u8 47, .int .u8 32, .int .u8 72, .int .u8 84, .int .u8 84, .int .u8 80, .int .u8 47, .int .u8 49, .int .u8 46, .int .u8 48, .int .u8 13, .int .u8 10, .int .u8 13, .int .u8 10]) Tryz.underlying22 tf_zero5 tf_sz5 rfl rfl (.inl rfl) rfl rfl rfl ?_
            intro b80
            refine AtL.convSl1 (l := [80, 79, 83, 84, 32, 47, 32, 72, 84, 84, 80, 47, 49, 46, 48, 13, 10, 13, 10]) 0 Tryz.underlying22 Tryz.underlying5 rfl rfl rfl (by decide) (.inl rfl) rfl rfl ?_
            intro s81 o82
            refine AtL.pick (H' := ph16.s :: x17.s :: rdC r15 ph16 x17 (.slice none 0 0) g18 :: s81 :: ph67.s :: x68.s :: rdC r8 ph67 x68 (.slice none 0 0) g69 :: s77 :: f64.s :: z65.s :: o66.s :: s62 :: f51.s :: z52.s :: o53.s :: ph54.s :: x55.s :: rdC r1 ph54 x55 (.slice none 0 0) g56 :: s49 :: o42.s :: s36 :: s40 :: ph23.s :: x24.s :: rdC r22 ph23 x24 (.slice none 0 0) g25 :: H) [22, 23, 24, 0, 1, 2, 3, 4, 5, 6, 7, 8, 9, 10, 11, 12, 13, 14, 15, 16, 17, 18, 19, 20, 21] 25 rfl rfl ?_
            refine AtL.call tf_body25 (.inl rfl) rfl rfl (push1 (l := [80, 79, 83, 84, 32, 47, 32, 72, 84, 84, 80, 47, 49, 46, 48, 13, 10, 13, 10]) (o82.rd (i := 0) rfl) hr21 hk5 (by decide) T) ?_
            rintro _ _ ⟨f83, z84, o85, ph86, x87, g88, hf89, hz90, ho91, hr92, rfl, rfl⟩
            have ho91l : o85.l.length = 1 := by rw [ho91]; rfl
            have ho91g : o85.l.getD 0 ((0, [], [], 0, ⟨none, 0, []⟩, ⟨none, 0, []⟩, false) : Int × List UInt8 × List UInt8 × Int × Vs (List UInt8 × List UInt8) × Vs UInt8 × Bool) = (411, [], [], (0 : Int), (⟨f83.A, f83.C, []⟩ : Vs (List UInt8 × List UInt8)), (⟨z84.A, z84.C, []⟩ : Vs UInt8), false) := by rw [ho91]; simp only [List.getD_cons_zero, Sl.v, hf89, hz90]
            have ho91e : ∀ x ∈ o85.l, Rd tyField w0 base (f83.s :: z84.s :: H) x.2.2.2.2.1.A x.2.2.2.2.1.C x.2.2.2.2.1.l ∧ Rd tyB w0 base (f83.s :: z84.s :: H) x.2.2.2.2.2.1.A x.2.2.2.2.2.1.C x.2.2.2.2.2.1.l := by rw [ho91]; exact (el_cons (P := fun (x : (Int × List UInt8 × List UInt8 × Int × Vs (List UInt8 × List UInt8) × Vs UInt8 × Bool)) => Rd tyField w0 base (f83.s :: z84.s :: H) x.2.2.2.2.1.A x.2.2.2.2.1.C x.2.2.2.2.1.l ∧ Rd tyB w0 base (f83.s :: z84.s :: H) x.2.2.2.2.2.1.A x.2.2.2.2.2.1.C x.2.2.2.2.2.1.l) ⟨(f83.own.rd (H := f83.s :: z84.s :: H) (i := 0) rfl), (z84.own.rd (H := f83.s :: z84.s :: H) (i := 1) rfl)⟩ el_nil)
            refine AtL.move (.inl rfl) rfl rfl ?_
            refine AtL.extract (.inl rfl) rfl rfl rfl ?_
            refine AtL.extract (.inl rfl) rfl rfl rfl ?_
            refine AtL.assign (.inl rfl) rfl rfl ?_
            refine AtL.assign (.inl rfl) rfl rfl ?_
            refine AtL.done ?_
            refine At.seq ?_
            refine At.region ?_
            refine AtL.makeSlice (n := 4097) (c := 4097) tf_el22 (by decide) (.inl rfl) rfl rfl rfl (by omega) (by omega) ?_
            intro A93 s94 o95 q96
            refine AtL.assign (.inl rfl) rfl rfl ?_
            refine AtL.done ?_
            refine At.seq ?_
            refine At.seq ?_
            refine At.region ?_
            refine AtL.assign (.inl rfl) rfl rfl ?_
            refine AtL.done ?_
            refine At.block ?_
            refine At.loop2 (fun (i : Nat) (y : Sl tyB 5) => [(4, .pointer (some ⟨r22, 0, none⟩)), (9, .bool (decide ((o53.l.getD 0 ((0, [], [], 0, ⟨none, 0, []⟩, ⟨none, 0, []⟩, false) : Int × List UInt8 × List UInt8 × Int × Vs (List UInt8 × List UInt8) × Vs UInt8 × Bool)).2.2.2.2.2.1.l = [97, 98]))), (14, .bool true), (15, .slice o85.A o85.l.length o85.C), (17, .slice y.A y.l.length y.C), (18, .int .i64 (i : Int))]) (fun (i : Nat) (y : Sl tyB 5) => y.s :: f83.s :: z84.s :: o85.s :: ph86.s :: x87.s :: rdC r15 ph86 x87 (.slice none 0 0) g88 :: s81 :: ph67.s :: x68.s :: rdC r8 ph67 x68 (.slice none 0 0) g69 :: s77 :: f64.s :: z65.s :: o66.s :: s62 :: f51.s :: z52.s :: o53.s :: ph54.s :: x55.s :: rdC r1 ph54 x55 (.slice none 0 0) g56 :: s49 :: o42.s :: s36 :: s40 :: ph23.s :: x24.s :: rdC r22 ph23 x24 (.slice none 0 0) g25 :: H) (fun (i : Nat) (y : Sl tyB 5) => i ≤ 4097 ∧ y.l = List.replicate i 97 ++ List.replicate (4097 - i) 0) (fun (i : Nat) (y : Sl tyB 5) => 4097 - i) 0 (⟨A93, 4097, List.replicate 4097 (0 : UInt8), s94, o95⟩) (⟨Nat.zero_le _, rfl⟩) ⟨rfl, rfl, rfl, rfl, rfl, rfl, trivial⟩ rfl ?_
            rintro i y ⟨hi, hy⟩ ihL1
            have hyl : y.l.length = 4097 := by rw [hy]; simp; omega
            have hcapy := Own.cap_le y.own
            refine At.seq ?_
            refine At.seq ?_
            refine At.region ?_
            refine AtL.move (.inl rfl) rfl rfl ?_
            refine AtL.move (.inl rfl) rfl rfl ?_
            refine AtL.lenL Tryz.underlying22 (.inl rfl) rfl rfl ?_
            refine AtL.lss (.inl rfl) rfl rfl rfl ?_
            refine AtL.done ?_
            refine At.cond rfl ?_ ?_
            · intro hc2
              have hc2 : (i : Int) < (y.l.length : Int) := of_decide_eq_true hc2
              refine At.skip ?_
              refine At.seq ?_
              refine At.block ?_
              refine At.region ?_
              refine AtL.move (.inl rfl) rfl rfl ?_
              refine AtL.move (.inl rfl) rfl rfl ?_
              refine AtL.indexL i (y.own.rd (i := 0) rfl) Tryz.underlying22 tf_sz5 (.inl rfl) rfl rfl rfl rfl (by omega) ?_
              refine AtL.setIdx (u := 97) 0 i tf_sz5 rfl y.own (by omega) (.inl rfl) rfl rfl ?_
              intro s97 o98
              refine AtL.relen (m := (y.l.set i 97).length) 17 rfl (List.length_set) ?_
              refine AtL.done ?_
              refine At.inBlock ?_
              refine At.region ?_
              refine AtL.move (.inl rfl) rfl rfl ?_
              refine AtL.add (z := (i : Int) + 1) (.inl rfl) rfl rfl rfl (w64 (by omega) (by omega)) ?_
              refine AtL.assign (.inl rfl) rfl rfl ?_
              refine AtL.done ?_
              refine ihL1 (i + 1) (⟨y.A, y.C, y.l.set i 97, s97, o98⟩) (⟨by omega, by dsimp only; rw [hy]; exact fill_set (by omega)⟩) (by omega) _ ?_
              exact ⟨rfl, rfl, rfl, rfl, (by first | rfl | exact slLen (by simp []) | exact intEq (by omega) | exact intEq (by simp []) | exact slLen (by simp []; omega)), (by first | rfl | exact slLen (by simp []) | exact intEq (by omega) | exact intEq (by simp []) | exact slLen (by simp []; omega)), trivial⟩
            · intro hc2
              have hc2 : ¬ ((i : Int) < (y.l.length : Int)) := of_decide_eq_false hc2
              obtain rfl : i = 4097 := by omega
              have hy9 : y.l = List.replicate 4097 97 := by rw [hy]; simp
              refine At.exit rfl ?_
              refine At.seq ?_
              refine At.region ?_
              refine AtL.move (.inl rfl) rfl rfl ?_
              refine AtL.move (.inl rfl) rfl rfl ?_
              refine AtL.pick (H' := ph23.s :: x24.s :: rdC r22 ph23 x24 (.slice none 0 0) g25 :: y.s :: f83.s :: z84.s :: o85.s :: ph86.s :: x87.s :: rdC r15 ph86 x87 (.slice none 0 0) g88 :: s81 :: ph67.s :: x68.s :: rdC r8 ph67 x68 (.slice none 0 0) g69 :: s77 :: f64.s :: z65.s :: o66.s :: s62 :: f51.s :: z52.s :: o53.s :: ph54.s :: x55.s :: rdC r1 ph54 x55 (.slice none 0 0) g56 :: s49 :: o42.s :: s36 :: s40 :: H) [26, 27, 28, 0, 1, 2, 3, 4, 5, 6, 7, 8, 9, 10, 11, 12, 13, 14, 15, 16, 17, 18, 19, 20, 21, 22, 23, 24, 25] 29 rfl rfl ?_
              refine AtL.call tf_body25 (.inl rfl) rfl rfl (push1 (l := y.l) (y.own.rd (i := 0) rfl) hr28 (by rw [hy9]; exact hk6) (by rw [hyl]; decide) T) ?_
              rintro _ _ ⟨f99, z100, o101, ph102, x103, g104, hf105, hz106, ho107, hr108, rfl, rfl⟩
              have ho107l : o101.l.length = 1 := by rw [ho107]; rfl
              have ho107g : o101.l.getD 0 ((0, [], [], 0, ⟨none, 0, []⟩, ⟨none, 0, []⟩, false) : Int × List UInt8 × List UInt8 × Int × Vs (List UInt8 × List UInt8) × Vs UInt8 × Bool) = (431, [], [], (0 : Int), (⟨f99.A, f99.C, []⟩ : Vs (List UInt8 × List UInt8)), (⟨z100.A, z100.C, []⟩ : Vs UInt8), false) := by rw [ho107]; simp only [List.getD_cons_zero, Sl.v, hf105, hz106]
              have ho107e : ∀ x ∈ o101.l, Rd tyField w0 base (f99.s :: z100.s :: H) x.2.2.2.2.1.A x.2.2.2.2.1.C x.2.2.2.2.1.l ∧ Rd tyB w0 base (f99.s :: z100.s :: H) x.2.2.2.2.2.1.A x.2.2.2.2.2.1.C x.2.2.2.2.2.1.l := by rw [ho107]; exact (el_cons (P := fun (x : (Int × List UInt8 × List UInt8 × Int × Vs (List UInt8 × List UInt8) × Vs UInt8 × Bool)) => Rd tyField w0 base (f99.s :: z100.s :: H) x.2.2.2.2.1.A x.2.2.2.2.1.C x.2.2.2.2.1.l ∧ Rd tyB w0 base (f99.s :: z100.s :: H) x.2.2.2.2.2.1.A x.2.2.2.2.2.1.C x.2.2.2.2.2.1.l) ⟨(f99.own.rd (H := f99.s :: z100.s :: H) (i := 0) rfl), (z100.own.rd (H := f99.s :: z100.s :: H) (i := 1) rfl)⟩ el_nil)
              refine AtL.move (.inl rfl) rfl rfl ?_
              refine AtL.extract (.inl rfl) rfl rfl rfl ?_
              refine AtL.extract (.inl rfl) rfl rfl rfl ?_
              refine AtL.assign (.inl rfl) rfl rfl ?_
              refine AtL.assign (.inl rfl) rfl rfl ?_
              refine AtL.done ?_
              refine At.seq ?_
              refine At.region ?_
              refine AtL.call tf_body23 (.inl rfl) rfl rfl (awake14_ok T) ?_
              rintro _ _ ⟨rfl, rfl⟩
              refine AtL.move (.inl rfl) rfl rfl ?_
              refine AtL.move (.inr ⟨_, _, _, rfl, rfl, rfl, rfl⟩) rfl rfl ?_
              refine AtL.pickT (.inl rfl) rfl rfl rfl ?_
              refine AtL.move (.inl rfl) rfl rfl ?_
              refine AtL.join 2 (E' := [(137, .bool true), (15, .slice o85.A o85.l.length o85.C), (19, .slice o101.A o101.l.length o101.C)]) (H' := f99.s :: z100.s :: o101.s :: ph102.s :: x103.s :: rdC r22 ph102 x103 (.slice none 0 0) g104 :: y.s :: f83.s :: z84.s :: o85.s :: ph86.s :: x87.s :: rdC r15 ph86 x87 (.slice none 0 0) g88 :: s81 :: ph67.s :: x68.s :: rdC r8 ph67 x68 (.slice none 0 0) g69 :: s77 :: f64.s :: z65.s :: o66.s :: s62 :: f51.s :: z52.s :: o53.s :: ph54.s :: x55.s :: rdC r1 ph54 x55 (.slice none 0 0) g56 :: s49 :: o42.s :: s36 :: s40 :: H) (fun J => ?_) ?_
              · refine AtL.split (t := 135) rfl ?_ ?_
                · intro hs135
                  have hs135 : (o53.l.getD 0 ((0, [], [], 0, ⟨none, 0, []⟩, ⟨none, 0, []⟩, false) : Int × List UInt8 × List UInt8 × Int × Vs (List UInt8 × List UInt8) × Vs UInt8 × Bool)).2.2.2.2.2.1.l = [97, 98] := of_decide_eq_true hs135
                  refine AtL.move (.inr ⟨_, _, _, rfl, rfl, rfl, rfl⟩) rfl rfl ?_
                  refine AtL.pickT (.inl rfl) rfl rfl rfl ?_
                  exact J _ (by exact ⟨rfl, rfl, rfl, trivial⟩)
                · intro hs135
                  have hs135 : ¬ ((o53.l.getD 0 ((0, [], [], 0, ⟨none, 0, []⟩, ⟨none, 0, []⟩, false) : Int × List UInt8 × List UInt8 × Int × Vs (List UInt8 × List UInt8) × Vs UInt8 × Bool)).2.2.2.2.2.1.l = [97, 98]) := of_decide_eq_false hs135
                  exfalso; revert hs135; first | decide | (simp; done) | (intro h9; exact absurd (by first | omega | (simp only [*]; rfl) | (simp only [*]; decide)) h9) | (intro h9; simp [*] at h9; done) | (intro h9; simp [*, Sl.v] at h9; done)
              · skip
                refine AtL.move (.inl rfl) rfl rfl ?_
                refine AtL.move (.inr ⟨_, _, _, rfl, rfl, rfl, rfl⟩) rfl rfl ?_
                refine AtL.lenL Tryz.underlying40 (.inr ⟨_, _, _, rfl, rfl, rfl, rfl⟩) rfl rfl ?_
                refine AtL.eqi (.inr ⟨_, _, _, rfl, rfl, rfl, rfl⟩) rfl rfl rfl ?_
                refine AtL.pickT (.inl rfl) rfl rfl rfl ?_
                refine AtL.move (.inl rfl) rfl rfl ?_
                refine AtL.join 6 (E' := [(149, .bool (decide (((o85.l.getD 0 ((0, [], [], 0, ⟨none, 0, []⟩, ⟨none, 0, []⟩, false) : Int × List UInt8 × List UInt8 × Int × Vs (List UInt8 × List UInt8) × Vs UInt8 × Bool)).1) = 411))), (19, .slice o101.A o101.l.length o101.C)]) (H' := f99.s :: z100.s :: o101.s :: ph102.s :: x103.s :: rdC r22 ph102 x103 (.slice none 0 0) g104 :: y.s :: f83.s :: z84.s :: o85.s :: ph86.s :: x87.s :: rdC r15 ph86 x87 (.slice none 0 0) g88 :: s81 :: ph67.s :: x68.s :: rdC r8 ph67 x68 (.slice none 0 0) g69 :: s77 :: f64.s :: z65.s :: o66.s :: s62 :: f51.s :: z52.s :: o53.s :: ph54.s :: x55.s :: rdC r1 ph54 x55 (.slice none 0 0) g56 :: s49 :: o42.s :: s36 :: s40 :: H) (fun J => ?_) ?_
                · refine AtL.split (t := 143) rfl ?_ ?_
                  · intro hs143
                    have hs143 : (o85.l.length : Int) = 1 := of_decide_eq_true hs143
                    refine AtL.move (.inr ⟨_, _, _, rfl, rfl, rfl, rfl⟩) rfl rfl ?_
                    refine AtL.indexL 0 (o85.own.rd (i := 9) rfl) Tryz.underlying40 tf_sz49 (.inr ⟨_, _, _, rfl, rfl, rfl, rfl⟩) rfl rfl rfl rfl (by omega) ?_
                    refine AtL.fieldAddr tf_fo49_0 (.inr ⟨_, _, _, rfl, rfl, rfl, rfl⟩) rfl rfl ?_
                    refine AtL.load (v := .int .i64 ((o85.l.getD 0 ((0, [], [], 0, ⟨none, 0, []⟩, ⟨none, 0, []⟩, false) : Int × List UInt8 × List UInt8 × Int × Vs (List UInt8 × List UInt8) × Vs UInt8 × Bool)).1)) tf_flat3 (.inr ⟨_, _, _, rfl, rfl, rfl, rfl⟩) rfl rfl (Rd.cell_at (o85.own.rd (i := 9) rfl) (j := 0) (getD_some ((0, [], [], 0, ⟨none, 0, []⟩, ⟨none, 0, []⟩, false) : Int × List UInt8 × List UInt8 × Int × Vs (List UInt8 × List UInt8) × Vs UInt8 × Bool) (by omega)) rfl) ?_
                    refine AtL.eqi (.inr ⟨_, _, _, rfl, rfl, rfl, rfl⟩) rfl rfl rfl ?_
                    refine AtL.pickT (.inl rfl) rfl rfl rfl ?_
                    exact J _ (by exact ⟨(boolIs (by clear J; first | (simp [hs143]; done) | (simp_all; done) | grind)), rfl, trivial⟩)
                  · intro hs143
                    have hs143 : ¬ ((o85.l.length : Int) = 1) := of_decide_eq_false hs143
                    exfalso; revert hs143; first | decide | (simp; done) | (intro h9; exact absurd (by first | omega | (simp only [*]; rfl) | (simp only [*]; decide)) h9) | (intro h9; simp [*] at h9; done) | (intro h9; simp [*, Sl.v] at h9; done)
                · skip
                  refine AtL.move (.inl rfl) rfl rfl ?_
                  refine AtL.join 4 (E' := [(154, .bool (decide ((o101.l.length : Int) = 1))), (19, .slice o101.A o101.l.length o101.C)]) (H' := f99.s :: z100.s :: o101.s :: ph102.s :: x103.s :: rdC r22 ph102 x103 (.slice none 0 0) g104 :: y.s :: f83.s :: z84.s :: o85.s :: ph86.s :: x87.s :: rdC r15 ph86 x87 (.slice none 0 0) g88 :: s81 :: ph67.s :: x68.s :: rdC r8 ph67 x68 (.slice none 0 0) g69 :: s77 :: f64.s :: z65.s :: o66.s :: s62 :: f51.s :: z52.s :: o53.s :: ph54.s :: x55.s :: rdC r1 ph54 x55 (.slice none 0 0) g56 :: s49 :: o42.s :: s36 :: s40 :: H) (fun J => ?_) ?_
                  · refine AtL.split (t := 150) rfl ?_ ?_
                    · intro hs150
                      have hs150 : ((o85.l.getD 0 ((0, [], [], 0, ⟨none, 0, []⟩, ⟨none, 0, []⟩, false) : Int × List UInt8 × List UInt8 × Int × Vs (List UInt8 × List UInt8) × Vs UInt8 × Bool)).1) = 411 := of_decide_eq_true hs150
                      refine AtL.move (.inr ⟨_, _, _, rfl, rfl, rfl, rfl⟩) rfl rfl ?_
                      refine AtL.lenL Tryz.underlying40 (.inr ⟨_, _, _, rfl, rfl, rfl, rfl⟩) rfl rfl ?_
                      refine AtL.eqi (.inr ⟨_, _, _, rfl, rfl, rfl, rfl⟩) rfl rfl rfl ?_
                      refine AtL.pickT (.inl rfl) rfl rfl rfl ?_
                      exact J _ (by exact ⟨(boolIs (by clear J; first | (simp [hs150]; done) | (simp_all; done) | grind)), rfl, trivial⟩)
                    · intro hs150
                      have hs150 : ¬ (((o85.l.getD 0 ((0, [], [], 0, ⟨none, 0, []⟩, ⟨none, 0, []⟩, false) : Int × List UInt8 × List UInt8 × Int × Vs (List UInt8 × List UInt8) × Vs UInt8 × Bool)).1) = 411) := of_decide_eq_false hs150
                      exfalso; revert hs150; first | decide | (simp; done) | (intro h9; exact absurd (by first | omega | (simp only [*]; rfl) | (simp only [*]; decide)) h9) | (intro h9; simp [*] at h9; done) | (intro h9; simp [*, Sl.v] at h9; done)
                  · skip
                    refine AtL.move (.inl rfl) rfl rfl ?_
                    refine AtL.join 6 (E' := [(161, .bool (decide (((o101.l.getD 0 ((0, [], [], 0, ⟨none, 0, []⟩, ⟨none, 0, []⟩, false) : Int × List UInt8 × List UInt8 × Int × Vs (List UInt8 × List UInt8) × Vs UInt8 × Bool)).1) = 431)))]) (H' := f99.s :: z100.s :: o101.s :: ph102.s :: x103.s :: rdC r22 ph102 x103 (.slice none 0 0) g104 :: y.s :: f83.s :: z84.s :: o85.s :: ph86.s :: x87.s :: rdC r15 ph86 x87 (.slice none 0 0) g88 :: s81 :: ph67.s :: x68.s :: rdC r8 ph67 x68 (.slice none 0 0) g69 :: s77 :: f64.s :: z65.s :: o66.s :: s62 :: f51.s :: z52.s :: o53.s :: ph54.s :: x55.s :: rdC r1 ph54 x55 (.slice none 0 0) g56 :: s49 :: o42.s :: s36 :: s40 :: H) (fun J => ?_) ?_
                    · refine AtL.split (t := 155) rfl ?_ ?_
                      · intro hs155
                        have hs155 : (o101.l.length : Int) = 1 := of_decide_eq_true hs155
                        refine AtL.move (.inr ⟨_, _, _, rfl, rfl, rfl, rfl⟩) rfl rfl ?_
                        refine AtL.indexL 0 (o101.own.rd (i := 2) rfl) Tryz.underlying40 tf_sz49 (.inr ⟨_, _, _, rfl, rfl, rfl, rfl⟩) rfl rfl rfl rfl (by omega) ?_
                        refine AtL.fieldAddr tf_fo49_0 (.inr ⟨_, _, _, rfl, rfl, rfl, rfl⟩) rfl rfl ?_
                        refine AtL.load (v := .int .i64 ((o101.l.getD 0 ((0, [], [], 0, ⟨none, 0, []⟩, ⟨none, 0, []⟩, false) : Int × List UInt8 × List UInt8 × Int × Vs (List UInt8 × List UInt8) × Vs UInt8 × Bool)).1)) tf_flat3 (.inr ⟨_, _, _, rfl, rfl, rfl, rfl⟩) rfl rfl (Rd.cell_at (o101.own.rd (i := 2) rfl) (j := 0) (getD_some ((0, [], [], 0, ⟨none, 0, []⟩, ⟨none, 0, []⟩, false) : Int × List UInt8 × List UInt8 × Int × Vs (List UInt8 × List UInt8) × Vs UInt8 × Bool) (by omega)) rfl) ?_
                        refine AtL.eqi (.inr ⟨_, _, _, rfl, rfl, rfl, rfl⟩) rfl rfl rfl ?_
                        refine AtL.pickT (.inl rfl) rfl rfl rfl ?_
                        exact J _ (by exact ⟨(boolIs (by clear J; first | (simp [hs155]; done) | (simp_all; done) | grind)), trivial⟩)
                      · intro hs155
                        have hs155 : ¬ ((o101.l.length : Int) = 1) := of_decide_eq_false hs155
                        exfalso; revert hs155; first | decide | (simp; done) | (intro h9; exact absurd (by first | omega | (simp only [*]; rfl) | (simp only [*]; decide)) h9) | (intro h9; simp [*] at h9; done) | (intro h9; simp [*, Sl.v] at h9; done)
                    · skip
                      refine AtL.assign (.inl rfl) rfl rfl ?_
                      refine AtL.done ?_
                      refine At.pick (H' := H) [] 32 rfl rfl ?_
                      exact At.ret Tryz.func6 rfl rfl (⟨by first | rfl | (simp; done) | (simp; rfl) | (simp only [*]; rfl), rfl⟩)
end Go.Proofs.YtlkdmbpbjhjkfaaGreatDoor
namespace Go.Proofs.YtlkdmbpbjhjkfaaGreatDoor
set_option linter.unusedVariables false
set_option linter.unusedSimpArgs false
set_option maxRecDepth 100000
set_option maxHeartbeats 400000 in
theorem httpcuts_ok {w0 : World} {base : Nat} {H : List Seg} {A A2 A3 : Option Addr} {C C2 C3 : Nat} {l : List UInt8} {ns ms : List Int} (h : Rd tyB w0 base H A C l) (h2 : Rd tyI w0 base H A2 C2 ns) (h3 : Rd tyI w0 base H A3 C3 ms) (T : Tabs w0 base) :
    SCalls Tryz.prog 7 [.slice A l.length C, .slice A2 ns.length C2, .slice A3 ms.length C3] w0 base (H) (fun v H' => v = .bool true ∧ H' = H) := by
  have hle0 := h.le
  have hcap0 := h.cap
  have hle2 := h2.le
  have hcap2 := h2.cap
  have hle3 := h3.le
  have hcap3 := h3.cap
  refine SCalls.of_walk (n := 62) Tryz.func7 rfl rfl rfl fun cs => ?_
  refine At.seq ?_
  refine At.region ?_
  refine AtL.assign (.inl rfl) rfl rfl ?_
  refine AtL.done ?_
  refine At.seq ?_
  refine At.region ?_
  refine AtL.call tf_body6 (.inl rfl) rfl rfl (httpknown_ok T) ?_
  rintro _ _ ⟨rfl, hHq⟩
  obtain rfl := hHq.symm
  refine AtL.assign (.inl rfl) rfl rfl ?_
  refine AtL.done ?_
  refine At.seq ?_
  refine At.seq ?_
  refine At.region ?_
  refine AtL.move (.inl rfl) rfl rfl ?_
  refine AtL.lenL Tryz.underlying22 (.inl rfl) rfl rfl ?_
  refine AtL.gtr (.inl rfl) rfl rfl rfl ?_
  refine AtL.move (.inl rfl) rfl rfl ?_
  refine AtL.join 4 (E' := [(22, .bool (decide ((9000 < (l.length : Int)) ∨ (60 < (ns.length : Int))))), (0, .slice A l.length C), (1, .slice A2 ns.length C2), (2, .slice A3 ms.length C3), (7, .bool true)]) (H' := H) (fun J => ?_) ?_
  · refine AtL.split (t := 18) rfl ?_ ?_
    · intro hs18
      have hs18 : 9000 < (l.length : Int) := of_decide_eq_true hs18
      refine AtL.skipped rfl rfl rfl rfl rfl rfl ?_
      refine AtL.skipped rfl rfl rfl rfl rfl rfl ?_
      refine AtL.skipped rfl rfl rfl rfl rfl rfl ?_
      refine AtL.pickT (.inl rfl) rfl rfl rfl ?_
      exact J _ (by exact ⟨(boolIs (by clear J; first | (simp [hs18]; done) | (simp_all; done) | grind)), rfl, rfl, rfl, rfl, trivial⟩)
    · intro hs18
      have hs18 : ¬ (9000 < (l.length : Int)) := of_decide_eq_false hs18
      refine AtL.move (.inr ⟨_, _, _, rfl, rfl, rfl, rfl⟩) rfl rfl ?_
      refine AtL.lenL Tryz.underlying55 (.inr ⟨_, _, _, rfl, rfl, rfl, rfl⟩) rfl rfl ?_
      refine AtL.gtr (.inr ⟨_, _, _, rfl, rfl, rfl, rfl⟩) rfl rfl rfl ?_
      refine AtL.pickF (.inl rfl) rfl rfl rfl ?_
      exact J _ (by exact ⟨(boolIs (by clear J; first | (simp [hs18]; done) | (simp_all; done) | grind)), rfl, rfl, rfl, rfl, trivial⟩)
  · skip
    refine AtL.move (.inl rfl) rfl rfl ?_
    refine AtL.join 4 (E' := [(27, .bool (decide (((9000 < (l.length : Int)) ∨ (60 < (ns.length : Int))) ∨ (60 < (ms.length : Int))))), (0, .slice A l.length C), (1, .slice A2 ns.length C2), (2, .slice A3 ms.length C3), (7, .bool true)]) (H' := H) (fun J => ?_) ?_
    · refine AtL.split (t := 23) rfl ?_ ?_
      · intro hs23
        have hs23 : (9000 < (l.length : Int)) ∨ (60 < (ns.length : Int)) := of_decide_eq_true hs23
        refine AtL.skipped rfl rfl rfl rfl rfl rfl ?_
        refine AtL.skipped rfl rfl rfl rfl rfl rfl ?_
        refine AtL.skipped rfl rfl rfl rfl rfl rfl ?_
        refine AtL.pickT (.inl rfl) rfl rfl rfl ?_
        exact J _ (by exact ⟨(boolIs (by clear J; first | (simp [hs23]; done) | (simp_all; done) | grind)), rfl, rfl, rfl, rfl, trivial⟩)
      · intro hs23
        have hs23 : ¬ ((9000 < (l.length : Int)) ∨ (60 < (ns.length : Int))) := of_decide_eq_false hs23
        refine AtL.move (.inr ⟨_, _, _, rfl, rfl, rfl, rfl⟩) rfl rfl ?_
        refine AtL.lenL Tryz.underlying55 (.inr ⟨_, _, _, rfl, rfl, rfl, rfl⟩) rfl rfl ?_
        refine AtL.gtr (.inr ⟨_, _, _, rfl, rfl, rfl, rfl⟩) rfl rfl rfl ?_
        refine AtL.pickF (.inl rfl) rfl rfl rfl ?_
        exact J _ (by exact ⟨(boolIs (by clear J; first | (simp [hs23]; done) | (simp_all; done) | grind)), rfl, rfl, rfl, rfl, trivial⟩)
    · skip
      refine AtL.done ?_
      refine At.cond rfl ?_ ?_
      · intro hc1
        have hc1 : ((9000 < (l.length : Int)) ∨ (60 < (ns.length : Int))) ∨ (60 < (ms.length : Int)) := of_decide_eq_true hc1
        refine At.seq ?_
        refine At.region ?_
        refine AtL.move (.inl rfl) rfl rfl ?_
        refine AtL.assign (.inl rfl) rfl rfl ?_
        refine AtL.done ?_
        exact At.ret Tryz.func7 rfl rfl (⟨rfl, rfl⟩)
      · intro hc1
        have hc1 : ¬ (((9000 < (l.length : Int)) ∨ (60 < (ns.length : Int))) ∨ (60 < (ms.length : Int))) := of_decide_eq_false hc1
        refine At.skip ?_
        refine At.seq ?_
        refine At.region ?_
        refine AtL.move (.inl rfl) rfl rfl ?_
        refine AtL.move (.inl rfl) rfl rfl ?_
        refine AtL.call tf_body33 (.inl rfl) rfl rfl (cut14_ok (l := l) (ns := ns) h h2 (by first | omega | (simp only [List.length_append, List.length_cons, List.length_nil]; omega) | (simp; done) | (simp; omega)) (by omega)) ?_
        rintro _ _ ⟨⟨A1, C2, l3, s4, o5⟩, hm6, he7, rfl, rfl⟩
        obtain ⟨hf8, hk9⟩ := cut_facts (x := l3) hm6
        refine AtL.call tf_body32 (.inl rfl) rfl rfl (by have h9 := pushed14_ok (w0 := w0) (base := base) (H := s4 :: H) (l := l3) (o5.rd (i := 0) rfl) (fun x hx => Rd.skip 1 (he7 x hx)) (by rw [hf8]; first | omega | (simp only [List.length_append]; omega)) (by omega) T; rw [hf8] at h9; exact h9) ?_
        rintro _ _ ⟨its10, y11, hy12, hp13, rfl, rfl⟩
        have hy12e : ∀ x ∈ y11.l, Rd tyField w0 base (itS its10 :: H) x.2.2.2.2.1.A x.2.2.2.2.1.C x.2.2.2.2.1.l ∧ Rd tyB w0 base (itS its10 :: H) x.2.2.2.2.2.1.A x.2.2.2.2.2.1.C x.2.2.2.2.2.1.l := by rw [hy12]; exact it_el its10 w0 base H
        have hy12m : y11.l.map plI = (runF l).1 := by rw [hy12, plI_v, hp13]
        refine AtL.move (.inl rfl) rfl rfl ?_
        refine AtL.extract (.inl rfl) rfl rfl rfl ?_
        refine AtL.extract (.inl rfl) rfl rfl rfl ?_
        refine AtL.extract (.inl rfl) rfl rfl rfl ?_
        refine AtL.assign (.inl rfl) rfl rfl ?_
        refine AtL.assign (.inl rfl) rfl rfl ?_
        refine AtL.assign (.inl rfl) rfl rfl ?_
        refine AtL.done ?_
        refine At.seq ?_
        refine At.region ?_
        refine AtL.move (.inl rfl) rfl rfl ?_
        refine AtL.move (.inl rfl) rfl rfl ?_
        refine AtL.call tf_body33 (.inl rfl) rfl rfl (cut14_ok (l := l) (ns := ms) (Rd.skip 3 h) (Rd.skip 3 h3) (by first | omega | (simp only [List.length_append, List.length_cons, List.length_nil]; omega) | (simp; done) | (simp; omega)) (by omega)) ?_
        rintro _ _ ⟨⟨A14, C15, l16, s17, o18⟩, hm19, he20, rfl, rfl⟩
        obtain ⟨hf21, hk22⟩ := cut_facts (x := l16) hm19
        refine AtL.call tf_body32 (.inl rfl) rfl rfl (by have h9 := pushed14_ok (w0 := w0) (base := base) (H := s17 :: itS its10 :: y11.s :: s4 :: H) (l := l16) (o18.rd (i := 0) rfl) (fun x hx => Rd.pick [1, 2, 3] 4 rfl rfl (he20 x hx)) (by rw [hf21]; first | omega | (simp only [List.length_append]; omega)) (by omega) T; rw [hf21] at h9; exact h9) ?_
        rintro _ _ ⟨its23, y24, hy25, hp26, rfl, rfl⟩
        have hy25e : ∀ x ∈ y24.l, Rd tyField w0 base (itS its23 :: H) x.2.2.2.2.1.A x.2.2.2.2.1.C x.2.2.2.2.1.l ∧ Rd tyB w0 base (itS its23 :: H) x.2.2.2.2.2.1.A x.2.2.2.2.2.1.C x.2.2.2.2.2.1.l := by rw [hy25]; exact it_el its23 w0 base H
        have hy25m : y24.l.map plI = (runF l).1 := by rw [hy25, plI_v, hp26]
        refine AtL.move (.inl rfl) rfl rfl ?_
        refine AtL.extract (.inl rfl) rfl rfl rfl ?_
        refine AtL.extract (.inl rfl) rfl rfl rfl ?_
        refine AtL.extract (.inl rfl) rfl rfl rfl ?_
        refine AtL.assign (.inl rfl) rfl rfl ?_
        refine AtL.assign (.inl rfl) rfl rfl ?_
        refine AtL.assign (.inl rfl) rfl rfl ?_
        refine AtL.done ?_
        refine At.seq ?_
        refine At.region ?_
        refine AtL.move (.inl rfl) rfl rfl ?_
        refine AtL.move (.inl rfl) rfl rfl ?_
        refine AtL.move (.inr ⟨_, _, _, rfl, rfl, rfl, rfl⟩) rfl rfl ?_
        refine AtL.pickT (.inl rfl) rfl rfl rfl ?_
        refine AtL.move (.inl rfl) rfl rfl ?_
        refine AtL.move (.inr ⟨_, _, _, rfl, rfl, rfl, rfl⟩) rfl rfl ?_
        refine AtL.pickT (.inl rfl) rfl rfl rfl ?_
        refine AtL.move (.inl rfl) rfl rfl ?_
        refine AtL.move (.inr ⟨_, _, _, rfl, rfl, rfl, rfl⟩) rfl rfl ?_
        refine AtL.move (.inr ⟨_, _, _, rfl, rfl, rfl, rfl⟩) rfl rfl ?_
        refine AtL.eqb Tryz.underlying4 (.inr ⟨_, _, _, rfl, rfl, rfl, rfl⟩) rfl rfl rfl ?_
        refine AtL.pickT (.inl rfl) rfl rfl rfl ?_
        refine AtL.move (.inl rfl) rfl rfl ?_
        refine AtL.join 4 (E' := [(61, .bool (decide (y11.l.map plI = y24.l.map plI)))]) (H' := itS its23 :: y24.s :: s17 :: itS its10 :: y11.s :: s4 :: H) (fun J => ?_) ?_
        · refine AtL.split (t := 57) rfl ?_ ?_
          · intro hs57
            have hs57 : (((runF l).2.2) == ((runF l).2.2)) = true := hs57
            refine AtL.move (.inr ⟨_, _, _, rfl, rfl, rfl, rfl⟩) rfl rfl ?_
            refine AtL.move (.inr ⟨_, _, _, rfl, rfl, rfl, rfl⟩) rfl rfl ?_
            refine AtL.call tf_body27 (.inr ⟨_, _, _, rfl, rfl, rfl, rfl⟩) rfl rfl (sameitems_ok (l := y11.l) (m := y24.l) (y11.own.rd (i := 4) rfl) (y24.own.rd (i := 1) rfl) (fun x hx => ⟨Rd.pick [3] 6 rfl rfl (hy12e x hx).1, Rd.pick [3] 6 rfl rfl (hy12e x hx).2⟩) (fun x hx => ⟨Rd.pick [0] 6 rfl rfl (hy25e x hx).1, Rd.pick [0] 6 rfl rfl (hy25e x hx).2⟩)) ?_
            rintro _ _ ⟨rfl, rfl⟩
            refine AtL.pickT (.inl rfl) rfl rfl rfl ?_
            exact J _ (by exact ⟨(boolIs (by clear J; first | (simp [hs57]; done) | (simp_all; done) | grind)), trivial⟩)
          · intro hs57
            exact Bool.noConfusion (hs57.symm.trans (beq_self_eq_true _))
        · skip
          refine AtL.assign (.inl rfl) rfl rfl ?_
          refine AtL.done ?_
          refine At.pick (H' := H) [] 6 rfl rfl ?_
          exact At.ret Tryz.func7 rfl rfl (⟨by first | rfl | (simp_all; done) | (simp_all; rfl), rfl⟩)
end Go.Proofs.YtlkdmbpbjhjkfaaGreatDoor
namespace Go.Proofs.YtlkdmbpbjhjkfaaGreatDoor
set_option linter.unusedVariables false
theorem returns_listed {H : Type} {enc : TypeId × Value → H} {a : Assume} {C : Checked} {os : Os} {f : FuncId} {fn : Func} {s : ChangeSpec} {conds : List PathCond} {apart fresh handsOn again : Bool} {X : World → Array Value → Prop}
    (hX : ∀ (w w' : World) (args : Array Value), w.heap = w'.heap → X w args → X w' args) (own : ownKnob C.prog.godebug = none) (started : os.Started) (noInit : C.prog.inits.idxOf? f = none) (hfn : C.prog.funcs[f]? = some fn)
    (wit : ∃ (w : World) (tape : Tape) (i : Input), w.os = os ∧ (w.forCall tape i).Shaped C.prog ∧ i.vars = [] ∧ Input.okWide C.prog (w.forCall tape i) .any w.heap.size f i ∧
      ((s.pre enc C.prog fn conds apart (w.forCall tape i).memory i.args ∧ X (w.forCall tape i).memory i.args) ∧ sizedMet enc C.prog fn (OpenSpec.ofChange s) apart (w.forCall tape i).memory i.args) ∧ a.holds C.prog (lone (Frame.enter C.prog f i.args .normal) [] (w.forCall tape i)))
    (con : ∀ (W : World) (base : Nat) (args : Array Value) (ds gs : List (DataW H)) (before : List MemPlace), (∀ (j : Nat) t v, fn.params[j]? = some t → args[j]? = some v → Value.okWide C.prog W .any base t v) → DataW.Whole enc C.prog fn.params.toList s.vars apart W args.toList ds gs before →
      conds.all (PathCond.test C.prog ⟨fn.params.toList, ds, s.plain.varTypes C.prog, gs⟩) = true → (DataW.weightsEach C.prog (fn.params.toList ++ s.plain.varTypes C.prog) (ds ++ gs)).all (· ≤ reachBytes) = true → X W args → W.ShapedOpen C.prog →
      Calls C.prog f args W fun e W' => ∃ v, e = .returned v ∧ s.post enc C.prog fn apart fresh handsOn again W args v W') :
    ReturnsInHanded a C os f .any (fun w args => (s.pre enc C.prog fn conds apart w args ∧ X w args) ∧ sizedMet enc C.prog fn (OpenSpec.ofChange s) apart w args) (s.post enc C.prog fn apart fresh handsOn again) := by
  refine returnsInHanded_of_calls own started noInit wit ?_
  rintro w tape i _ hsh _ ⟨_, _, _, fn', hfn', _, _, _, _, hval⟩ ⟨⟨⟨ds, gs, before, hw, hc⟩, hx⟩, hz⟩ _
  obtain rfl : fn' = fn := Option.some.inj (hfn'.symm.trans hfn)
  refine (con (w.forCall tape i) w.heap.size i.args ds gs before hval (DataW.Whole.of_heap (w' := w.forCall tape i) (by rfl) hw) hc (hz.weights hw) (hX _ _ _ (by rfl) hx) hsh).mono ?_
  rintro _ W' ⟨v, rfl, hp⟩
  exact ChangeSpec.post_blind hp
end Go.Proofs.YtlkdmbpbjhjkfaaGreatDoor
namespace Go.Proofs.YtlkdmbpbjhjkfaaGreatDoor
set_option linter.unusedVariables false
set_option linter.unusedSimpArgs false
set_option maxRecDepth 100000
def u8ren : Go.Shelf.Ren := ⟨fun _ => 0, fun | 5 => 5 | 119 => 166 | 138 => 252 | 139 => 253 | _ => 0, fun | 3 => 4 | 4 => 5 | _ => 0⟩
theorem tabs_of {W : World} (hsh : W.ShapedOpen Tryz.prog) {d1 d2 : DataW Unit} (h3 : Go.Lib.VarReads Tryz.prog W "unicode/utf8.first" d1) (h4 : Go.Lib.VarReads Tryz.prog W "unicode/utf8.acceptRanges" d2) (e1 : d1 = Go.Lib.firstData := by kernel_rfl) (e2 : d2 = Go.Lib.acceptData := by kernel_rfl) : Tabs W W.heap.size := by
  subst e1; subst e2
  obtain ⟨m, hm⟩ := cell_of_shapedOpen_int (P := Tryz.prog) (g := 0) (t := 3) (zero := #[.int .i64 0]) hsh (of_decide_eq_true (by kernel_rfl)) (by kernel_rfl) rfl (by kernel_rfl) (by kernel_rfl) Tryz.underlying3
  have hu := Go.Proofs.utf8Tabs_of_readsT (P := Tryz.prog) (ρ := u8ren) { t5 := Tryz.underlying5, t119 := Tryz.underlying166, t138 := Tryz.underlying252, t139 := Tryz.underlying253 } { n3 := by kernel_rfl, n4 := by kernel_rfl, y3 := by kernel_rfl, y4 := by kernel_rfl, c5 := by kernel_rfl, c119 := by kernel_rfl, c138 := by kernel_rfl } h3 h4
  have h1 : ∀ c, c < 256 → W.cell? ⟨4, c, none⟩ = some (.int .u8 (Lib.firstT c)) := hu.1
  have h2 : ∀ i, i < 16 → W.cell? ⟨5, 2 * i, none⟩ = some (.int .u8 (Lib.accLo i)) ∧ W.cell? ⟨5, 2 * i + 1, none⟩ = some (.int .u8 (Lib.accHi i)) := hu.2
  exact ⟨cell_skip (h1 0 (by decide)), cell_skip (h2 0 (by decide)).1, h1, cell_skip hm, ⟨m, hm⟩, h2⟩
end Go.Proofs.YtlkdmbpbjhjkfaaGreatDoor
namespace Go.Proofs.YtlkdmbpbjhjkfaaGreatDoor
set_option linter.unusedVariables false
set_option linter.unusedSimpArgs false
set_option maxRecDepth 100000
theorem seat_main : Tryz.prog.mainIs = some ((true, "042db8cd397699b23d1f30724be7f7fd46a346a9a8aa6dfad5608fe212b22c42").1, (true, "042db8cd397699b23d1f30724be7f7fd46a346a9a8aa6dfad5608fe212b22c42").2.toList) := by kernel_rfl
theorem seat_looks : true = Tryz.prog.looks [] := by kernel_rfl
end Go.Proofs.YtlkdmbpbjhjkfaaGreatDoor
namespace Go.Proofs.YtlkdmbpbjhjkfaaGreatDoor.pHttpCuts
open Go.ChangeShapes Go.WideShapes Go.ChangeAt Go.RowKit Go.Deep
open Go.ChangeMaps (open_string shut_string)
set_option linter.unusedVariables false
theorem own : ownKnob Tryz.prog.godebug = none := by kernel_rfl
theorem laidOut : laidOutB Tryz.prog = true := by kernel_rfl
set_option maxRecDepth 100000 in
theorem lifted (os : Os) (started : os.Started) (H : Type) (enc : TypeId × Value → H) :
    ReturnsInHanded {} Tryz.checked os 7 .any (fun w args => (Rows.httpCutsSpec.pre enc Tryz.prog Tryz.f7 Rows.httpCutsRow.domain false w args ∧ laidMetH Tryz.prog [("math/bits.deBruijn32tab", Rows.laid_math_bits_deBruijn32tab), ("math/bits.deBruijn64tab", Rows.laid_math_bits_deBruijn64tab), ("internal/strconv.uint64pow10", Rows.laid_internal_strconv_uint64pow10), ("unicode/utf8.acceptRanges", Rows.laid_unicode_utf8_acceptRanges), ("strconv.ErrRange", Rows.laid_strconv_ErrRange), ("strconv.ErrSyntax", Rows.laid_strconv_ErrSyntax), ("unicode/utf8.first", Rows.laid_unicode_utf8_first)] w) ∧ sizedMet enc Tryz.prog Tryz.f7 (OpenSpec.ofChange Rows.httpCutsSpec) false w args) (Rows.httpCutsSpec.post enc Tryz.prog Tryz.f7 false true false false) := by
  refine returns_listed (C := Tryz.checked) (X := fun w _ => laidMetH Tryz.prog [("math/bits.deBruijn32tab", Rows.laid_math_bits_deBruijn32tab), ("math/bits.deBruijn64tab", Rows.laid_math_bits_deBruijn64tab), ("internal/strconv.uint64pow10", Rows.laid_internal_strconv_uint64pow10), ("unicode/utf8.acceptRanges", Rows.laid_unicode_utf8_acceptRanges), ("strconv.ErrRange", Rows.laid_strconv_ErrRange), ("strconv.ErrSyntax", Rows.laid_strconv_ErrSyntax), ("unicode/utf8.first", Rows.laid_unicode_utf8_first)] w) (fun _ _ _ hh h => h.of_heap hh) own started (by kernel_rfl) Tryz.func7
    (ChangeSpec.witness_shaped (enc := enc) (C := Tryz.checked) (os := os) (X := fun w _ => laidMetH Tryz.prog [("math/bits.deBruijn32tab", Rows.laid_math_bits_deBruijn32tab), ("math/bits.deBruijn64tab", Rows.laid_math_bits_deBruijn64tab), ("internal/strconv.uint64pow10", Rows.laid_internal_strconv_uint64pow10), ("unicode/utf8.acceptRanges", Rows.laid_unicode_utf8_acceptRanges), ("strconv.ErrRange", Rows.laid_strconv_ErrRange), ("strconv.ErrSyntax", Rows.laid_strconv_ErrSyntax), ("unicode/utf8.first", Rows.laid_unicode_utf8_first)] w) false (World.laidAll Tryz.prog os [("math/bits.deBruijn32tab", Rows.laid_math_bits_deBruijn32tab), ("math/bits.deBruijn64tab", Rows.laid_math_bits_deBruijn64tab), ("internal/strconv.uint64pow10", Rows.laid_internal_strconv_uint64pow10), ("unicode/utf8.acceptRanges", Rows.laid_unicode_utf8_acceptRanges), ("strconv.ErrRange", Rows.laid_strconv_ErrRange), ("strconv.ErrSyntax", Rows.laid_strconv_ErrSyntax), ("unicode/utf8.first", Rows.laid_unicode_utf8_first)]) #[.slice none 0 0, .slice none 0 0, .slice none 0 0] 8 (World.laidAll_os _ _ _) (World.shaped_of_ZipB (by kernel_rfl) (by kernel_rfl)) (by kernel_rfl) (by kernel_rfl) (by kernel_rfl) (by rw [MakeChecks.laidMetH_plain _ _ _ (by kernel_rfl)]; exact laidMet_laidAll _ (by kernel_rfl) (by kernel_rfl))) ?_
  intro W base args ds gs before hval0 hW hcnd hsz0 hlaid hsh
  have hlaid' : laidMet Tryz.prog [("math/bits.deBruijn32tab", Rows.laid_math_bits_deBruijn32tab), ("math/bits.deBruijn64tab", Rows.laid_math_bits_deBruijn64tab), ("internal/strconv.uint64pow10", Rows.laid_internal_strconv_uint64pow10), ("unicode/utf8.acceptRanges", Rows.laid_unicode_utf8_acceptRanges), ("strconv.ErrRange", Rows.laid_strconv_ErrRange), ("strconv.ErrSyntax", Rows.laid_strconv_ErrSyntax), ("unicode/utf8.first", Rows.laid_unicode_utf8_first)] W := hlaid
  have hTabs : Tabs W W.heap.size := tabs_of hsh (Go.Lib.laidMet.reads hlaid' (n := "unicode/utf8.first") (d := Rows.laid_unicode_utf8_first) (.tail _ (.tail _ (.tail _ (.tail _ (.tail _ (.tail _ (.head _)))))))) (Go.Lib.laidMet.reads hlaid' (n := "unicode/utf8.acceptRanges") (d := Rows.laid_unicode_utf8_acceptRanges) (.tail _ (.tail _ (.tail _ (.head _)))))
  have hsz : ∀ (j : Nat) t d, Tryz.f7.params.toList[j]? = some t → ds[j]? = some d → ∀ n ∈ d.weights Tryz.prog t, n ≤ 140737488351232 := fun j t d ht hd n hn => by
    have h1 := List.all_eq_true.1 hsz0 n (DataW.weights_mem_each (j := j) (t := t) (d := d) (by rw [List.getElem?_append_left (List.getElem?_eq_some_iff.1 ht).1]; exact ht) (by rw [List.getElem?_append_left (List.getElem?_eq_some_iff.1 hd).1]; exact hd) n hn)
    exact of_decide_eq_true h1
  have hval : ∀ (j : Nat) t v, Tryz.f7.params[j]? = some t → args[j]? = some v → Value.okWide Tryz.prog W .any base t v := hval0
  have hW' := hW
  obtain ⟨p, q, hA0, hV, rfl, hfz, hnd⟩ := hW
  have hA : DataW.TrodAll enc Tryz.prog W 0 (fun _ => true) true Tryz.f7.params.toList args.toList ds p := hA0
  rw [Tryz.params7] at hA hval hsz
  obtain ⟨v0, vs0, d0, ds0, p0, q0, hargs, rfl, rfl, h0, tr0⟩ := trodAll_cons hA
  obtain ⟨v1, vs1, d1, ds1, p1, q1, rfl, rfl, rfl, h1, tr1⟩ := trodAll_cons tr0
  obtain ⟨v2, vs2, d2, ds2, p2, q2, rfl, rfl, rfl, h2, tr2⟩ := trodAll_cons tr1
  obtain ⟨rfl, rfl, rfl⟩ := trodAll_nil tr2
  obtain rfl : args = #[v0, v1, v2] := by cases args; simp_all
  obtain ⟨rfl, rfl⟩ := trodVars_none hV
  have k0 := h0
  have lt0 : ∀ x ∈ p0, x.block < W.heap.size := by obtain ⟨m, hm⟩ := k0; exact DataW.trod_lt m _ _ _ hm
  obtain ⟨A0, C0, l0, rfl, r0, b0, q0⟩ := arg_slice Tryz.underlying22 (by kernel_rfl) (by decide) 1 (by kernel_rfl) (Reads.u8 Tryz.underlying5) (hval 0 22 v0 rfl rfl) h0 (hsz 0 22 d0 rfl rfl)
  have k1 := h1
  have lt1 : ∀ x ∈ p1, x.block < W.heap.size := by obtain ⟨m, hm⟩ := k1; exact DataW.trod_lt m _ _ _ hm
  obtain ⟨A1, C1, l1, rfl, r1, b1, q1⟩ := arg_slice Tryz.underlying55 (by kernel_rfl) (by decide) 8 (by kernel_rfl) (Reads.int Tryz.underlying3) (hval 1 55 v1 rfl rfl) h1 (hsz 1 55 d1 rfl rfl)
  have k2 := h2
  have lt2 : ∀ x ∈ p2, x.block < W.heap.size := by obtain ⟨m, hm⟩ := k2; exact DataW.trod_lt m _ _ _ hm
  obtain ⟨A2, C2, l2, rfl, r2, b2, q2⟩ := arg_slice Tryz.underlying55 (by kernel_rfl) (by decide) 8 (by kernel_rfl) (Reads.int Tryz.underlying3) (hval 2 55 v2 rfl rfl) h2 (hsz 2 55 d2 rfl rfl)
  clear hA0 hval0
  refine (law_of (httpcuts_ok (l := l0) (ns := l1) (ms := l2) r0 r1 r2 hTabs)).mono fun e W' ⟨he, bel⟩ => ?_
  subst he
  exact ⟨_, rfl, _, _, _, [], _, [], hW', trodAll_mk1 (shut_bool Tryz.underlying4 _), (trodAll_cons_mk (Below.trod laidOut (by kernel_rfl) (of_decide_eq_true (by kernel_rfl)) k0 bel lt0) (trodAll_cons_mk (Below.trod laidOut (by kernel_rfl) (of_decide_eq_true (by kernel_rfl)) k1 bel lt1) (trodAll_cons_mk (Below.trod laidOut (by kernel_rfl) (of_decide_eq_true (by kernel_rfl)) k2 bel lt2) trodAll_mk0))), rfl, bel.frame _, fun h => by cases h⟩
theorem jf0 : (Rows.httpCutsRow.inPlace == Tryz.prog.inPlace 7) = true := by kernel_rfl
theorem jf1 : (Rows.httpCutsRow.unfollowed == Tryz.prog.unfollowed 7) = true := by kernel_rfl
theorem jf2 : (Rows.httpCutsRow.recurses == Tryz.prog.recurses 7) = true := by kernel_rfl
theorem jf3 : (Rows.httpCutsRow.named == Tryz.prog.varsNamed 7) = true := by kernel_rfl
theorem jall : joinedFacts Tryz.prog 7 Tryz.f7 Rows.httpCutsSpec Rows.httpCutsRow = true := by
  unfold joinedFacts
  rw [jf0, jf1, jf2, jf3]
  kernel_rfl
theorem over : Rows.httpCutsRow.holds Tryz.pinned (OpenSpec.ofChange Rows.httpCutsSpec) :=
  OpenClaim.holds_of_wide 7 Tryz.f7 rfl rfl rfl rfl rfl rfl rfl ⟨rfl, rfl, rfl, rfl, rfl⟩ rfl rfl rfl rfl rfl (by kernel_rfl) Tryz.func7 jall
    (of_decide_eq_true (by kernel_rfl)) (by unfold Func.isWrapper; first | (rw [if_pos (by decide +kernel)]; kernel_rfl) | (rw [if_neg (by decide +kernel)]; exact ⟨rfl, rfl⟩))
    (fun os started H enc _ => lifted os started H enc)
theorem pf0 : Rows.httpCutsRow.wfByText (OpenSpec.ofChange Rows.httpCutsSpec) = true := by kernel_rfl
theorem pf3 : false = Rows.httpCutsRow.goesBy Tryz.prog := by kernel_rfl
theorem proved : Rows.HttpCutsCardSaid :=
  Claim7.holds_tied_plain_at .later [] [.data, .data, .data, .data, .sentinel, .sentinel, .pinned] true (true, "042db8cd397699b23d1f30724be7f7fd46a346a9a8aa6dfad5608fe212b22c42") true
    over (fun _ h => by cases h) pf0 (fun _ h => by cases h) httpCuts_row_tie rfl ⟨rfl, rfl⟩ seat_main rfl
    (fun f fn hf hfn => by
      obtain rfl : f = 7 := Option.some.inj ((show Tryz.prog.funcNamed "ostiary/ostiarylaw14.HttpCuts" = some 7 by kernel_rfl).symm.trans hf) |>.symm
      obtain rfl : fn = Tryz.f7 := (Option.some.inj (Tryz.func7.symm.trans hfn)).symm
      exact ⟨seat_looks, fun j t ht => by
        rw [Tryz.params7] at ht
        have hm : t ∈ ([22, 55, 55] : List Nat) := by simpa using Array.mem_of_getElem? ht
        have hall : (([22, 55, 55] : List Nat).all fun u => !Tryz.prog.wantsStandIn u) = true := by kernel_rfl
        exact (show Tryz.prog.wantsStandIn t = false by simpa using List.all_eq_true.1 hall t hm)⟩)
    pf3
end Go.Proofs.YtlkdmbpbjhjkfaaGreatDoor.pHttpCuts
