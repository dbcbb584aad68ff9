/- HttpBack: the law holds of every input: it returns true, and each argument reads as it did. -/
import Derived.Test.YtlkdmbpbjhjkfaaGreatDoorHBackPkD
namespace Go.Proofs.YtlkdmbpbjhjkfaaGreatDoor
set_option linter.unusedVariables false
set_option linter.unusedSimpArgs false
set_option maxRecDepth 100000
def cutF : List UInt8 → List Int → List (List UInt8)
  | b, [] => [b]
  | b, c :: cs => if b = [] then [b] else b.take (pick c (b.length + 1)).toNat :: cutF (b.drop (pick c (b.length + 1)).toNat) cs
theorem cutF_flat (b : List UInt8) (cs : List Int) : (cutF b cs).flatten = b := by
  induction cs generalizing b with
  | nil => simp [cutF]
  | cons c cs ih =>
    unfold cutF
    split
    · simp
    · rw [List.flatten_cons, ih, List.take_append_drop]
theorem cutF_stop {b : List UInt8} {cs : List Int} {i : Nat} (h : cs.length ≤ i ∨ b.length = 0) : cutF b (cs.drop i) = [b] := by
  rcases h with h | h
  · rw [List.drop_eq_nil_of_le h]; rfl
  · have := List.eq_nil_of_length_eq_zero h
    subst this
    cases hc : cs.drop i with
    | nil => rfl
    | cons c cs => simp [cutF]
theorem cutF_go {b : List UInt8} {cs : List Int} {i : Nat} (h : i < cs.length) (h2 : 0 < b.length) :
    cutF b (cs.drop i) = b.take (pick (cs.getD i 0) (b.length + 1)).toNat :: cutF (b.drop (pick (cs.getD i 0) (b.length + 1)).toNat) (cs.drop (i + 1)) := by
  have h3 : cs.drop i = cs.getD i 0 :: cs.drop (i + 1) := by rw [List.drop_eq_getElem_cons h]; simp [List.getD, h]
  rw [h3, cutF, if_neg (by intro e; subst e; simp at h2)]
theorem pick_bd {x : Int} {n : Nat} : 0 ≤ pick x (n + 1) ∧ pick x (n + 1) ≤ n := by
  rw [pick, if_neg (by omega)]
  have := Int.emod_nonneg x (show ((n : Int) + 1) ≠ 0 by omega)
  have := Int.emod_lt_of_pos x (show (0 : Int) < (n : Int) + 1 by omega)
  omega
theorem flat_take_le (ps : List (List UInt8)) (i : Nat) : (ps.take i).flatten.length ≤ ps.flatten.length := by
  have h1 : ps.flatten = (ps.take i).flatten ++ (ps.drop i).flatten := by rw [← List.flatten_append, List.take_append_drop]
  rw [h1, List.length_append]; omega
theorem flat_getD_le (ps : List (List UInt8)) (i : Nat) : (ps.getD i []).length ≤ ps.flatten.length := by
  by_cases h : i < ps.length
  · have h1 : ps = ps.take i ++ ps.getD i [] :: ps.drop (i + 1) := by
      have : ps.getD i [] = ps[i] := by simp [List.getD, h]
      rw [this, ← List.drop_eq_getElem_cons h, List.take_append_drop]
    have h2 : ps.flatten.length = (ps.take i).flatten.length + ((ps.getD i []).length + (ps.drop (i + 1)).flatten.length) := by
      conv => lhs; rw [h1]
      simp
    omega
  · simp [List.getD, h]
theorem cutF_len (b : List UInt8) (cs : List Int) : (cutF b cs).length ≤ cs.length + 1 := by
  induction cs generalizing b with
  | nil => simp [cutF]
  | cons c cs ih =>
    unfold cutF
    split
    · simp
    · have := ih (b.drop (pick c (b.length + 1)).toNat)
      simp; omega
theorem cut_facts {x : List Bs} {l : List UInt8} {ns : List Int} (h : x.map (·.l) = cutF l ns) : (x.map (·.l)).flatten = l ∧ x.length ≤ ns.length + 1 := by
  have h1 := cutF_len l ns
  rw [← h] at h1
  exact ⟨by rw [h, cutF_flat], by simpa using h1⟩
set_option maxHeartbeats 400000 in
theorem cut14_ok {w0 : World} {base : Nat} {H : List Seg} {A A2 : Option Addr} {C C2 : Nat} {l : List UInt8} {ns : List Int} (h : Rd tyB w0 base H A C l) (h2 : Rd tyI w0 base H A2 C2 ns) (hl : l.length ≤ 1000000) (hc : ns.length ≤ 1000) :
    SCalls Tryz.prog 33 [.slice A l.length C, .slice A2 ns.length C2] w0 base (H) (fun v H' => ∃ x : Sl tyL 22, x.l.map (·.l) = cutF l ns ∧ (∀ y ∈ x.l, Rd tyB w0 base H y.A y.C y.l) ∧ v = .slice x.A x.l.length x.C ∧ H' = x.s :: H) := by
  refine SCalls.of_walk (n := 40) Tryz.func33 rfl rfl rfl fun cs => ?_
  refine At.seq ?_
  refine At.region ?_
  refine AtL.assign (.inl rfl) rfl rfl ?_
  refine AtL.done ?_
  refine At.seq ?_
  refine At.region ?_
  refine AtL.assign (.inl rfl) rfl rfl ?_
  refine AtL.done ?_
  refine At.seq ?_
  refine At.seq ?_
  refine At.region ?_
  refine AtL.assign (.inl rfl) rfl rfl ?_
  refine AtL.done ?_
  refine At.block ?_
  refine At.nil ?_
  refine At.loop3 (fun (i : Nat) (x : Sl tyL 22) (v : Vw tyB w0 base H) => [(0, .slice v.A v.l.length v.C), (1, .slice A2 ns.length C2), (5, .slice x.A x.l.length x.C), (6, .int .i64 (i : Int))]) (fun (i : Nat) (x : Sl tyL 22) (v : Vw tyB w0 base H) => x.s :: H) (fun (i : Nat) (x : Sl tyL 22) (v : Vw tyB w0 base H) => x.l.map (·.l) ++ cutF v.l (ns.drop i) = cutF l ns ∧ (∀ y ∈ x.l, Rd tyB w0 base H y.A y.C y.l) ∧ v.l.length ≤ l.length ∧ i ≤ ns.length ∧ x.l.length = i) (fun (i : Nat) (x : Sl tyL 22) (v : Vw tyB w0 base H) => ns.length - i) 0 Sl.nil (⟨A, C, l, h⟩) (⟨rfl, el_nil, Nat.le_refl _, Nat.zero_le _, rfl⟩) ⟨rfl, rfl, rfl, rfl, trivial⟩ rfl ?_
  rintro i x v ⟨hI, hx, hv, hi, hxi⟩ ihL1
  have hp := pick_bd (x := ns.getD i 0) (n := v.l.length)
  refine At.seq ?_
  refine At.seq ?_
  refine At.region ?_
  refine AtL.move (.inl rfl) rfl rfl ?_
  refine AtL.move (.inl rfl) rfl rfl ?_
  refine AtL.lenL Tryz.underlying55 (.inl rfl) rfl rfl ?_
  refine AtL.lss (.inl rfl) rfl rfl rfl ?_
  refine AtL.move (.inl rfl) rfl rfl ?_
  refine AtL.join 4 (E' := [(16, .bool (decide (((i : Int) < (ns.length : Int)) ∧ (0 < (v.l.length : Int))))), (0, .slice v.A v.l.length v.C), (1, .slice A2 ns.length C2), (5, .slice x.A x.l.length x.C), (6, .int .i64 (i : Int))]) (H' := x.s :: H) (fun J => ?_) ?_
  · refine AtL.split (t := 12) rfl ?_ ?_
    · intro hs12
      have hs12 : (i : Int) < (ns.length : Int) := of_decide_eq_true hs12
      refine AtL.move (.inr ⟨_, _, _, rfl, rfl, rfl, rfl⟩) rfl rfl ?_
      refine AtL.lenL Tryz.underlying22 (.inr ⟨_, _, _, rfl, rfl, rfl, rfl⟩) rfl rfl ?_
      refine AtL.gtr (.inr ⟨_, _, _, rfl, rfl, rfl, rfl⟩) rfl rfl rfl ?_
      refine AtL.pickT (.inl rfl) rfl rfl rfl ?_
      exact J _ (by exact ⟨(boolIs (by clear J; first | (simp [hs12]; done) | (simp_all; done) | grind)), rfl, rfl, rfl, rfl, trivial⟩)
    · intro hs12
      have hs12 : ¬ ((i : Int) < (ns.length : Int)) := of_decide_eq_false hs12
      refine AtL.skipped rfl rfl rfl rfl rfl rfl ?_
      refine AtL.skipped rfl rfl rfl rfl rfl rfl ?_
      refine AtL.skipped rfl rfl rfl rfl rfl rfl ?_
      refine AtL.pickF (.inl rfl) rfl rfl rfl ?_
      exact J _ (by exact ⟨(boolIs (by clear J; first | (simp [hs12]; done) | (simp_all; done) | grind)), rfl, rfl, rfl, rfl, trivial⟩)
  · skip
    refine AtL.done ?_
    refine At.cond rfl ?_ ?_
    · intro hc1
      have hc1 : ((i : Int) < (ns.length : Int)) ∧ (0 < (v.l.length : Int)) := of_decide_eq_true hc1
      refine At.skip ?_
      refine At.seq ?_
      refine At.block ?_
      refine At.seq ?_
      refine At.region ?_
      refine AtL.move (.inl rfl) rfl rfl ?_
      refine AtL.move (.inl rfl) rfl rfl ?_
      refine AtL.indexL i (Rd.skip 1 h2) Tryz.underlying55 tf_sz3 (.inl rfl) rfl rfl rfl rfl (by omega) ?_
      refine AtL.load (v := .int .i64 (ns.getD i 0)) tf_flat3 (.inl rfl) rfl rfl (Rd.cell0 (Rd.skip 1 h2) (getD_some 0 (by omega)) rfl) ?_
      refine AtL.move (.inl rfl) rfl rfl ?_
      refine AtL.lenL Tryz.underlying22 (.inl rfl) rfl rfl ?_
      refine AtL.add (z := (v.l.length : Int) + 1) (.inl rfl) rfl rfl rfl (w64 (by omega) (by omega)) ?_
      refine AtL.call tf_body50 (.inl rfl) rfl rfl (pick_ok (ns.getD i 0) ((v.l.length : Int) + 1) (by omega)) ?_
      rintro _ _ ⟨rfl, rfl⟩
      refine AtL.assign (.inl rfl) rfl rfl ?_
      refine AtL.done ?_
      refine At.seq ?_
      refine At.region ?_
      refine AtL.move (.inl rfl) rfl rfl ?_
      refine AtL.move (.inl rfl) rfl rfl ?_
      refine AtL.move (.inl rfl) rfl rfl ?_
      have hleo3 := Rd.le v.rd
      refine AtL.sliceR 1 0 (Int.toNat (pick (ns.getD i 0) ((v.l.length : Int) + 1))) v.C v.rd rfl (evBound_some rfl (by omega)) rfl (by intro h; cases h) (by omega) (by omega) (by omega) (by omega) Tryz.underlying22 tf_sz5 (.inl rfl) rfl rfl ?_
      clear hleo3
      intro A1 C2 (o3 : Rd tyB w0 base H A1 C2 (subl v.l 0 (Int.toNat (pick (ns.getD i 0) ((v.l.length : Int) + 1)))))
      have hlo3 : (subl v.l 0 (Int.toNat (pick (ns.getD i 0) ((v.l.length : Int) + 1)))).length = (Int.toNat (pick (ns.getD i 0) ((v.l.length : Int) + 1))) - 0 := subl_len (by omega)
      refine AtL.buildSlice (cs := [.slice A1 (subl v.l 0 (Int.toNat (pick (ns.getD i 0) ((v.l.length : Int) + 1)))).length C2]) Tryz.underlying33 tf_zero22 tf_sz22 rfl rfl (.inl rfl) rfl rfl rfl ?_
      intro b4
      refine AtL.own1 tyL (l := ([(⟨A1, C2, subl v.l 0 (Int.toNat (pick (ns.getD i 0) ((v.l.length : Int) + 1)))⟩ : Bs)] : List Bs)) rfl rfl (by first | decide | simp) ?_
      intro s5 o6
      refine AtL.append (l := x.l) (news := [(⟨A1, C2, subl v.l 0 (Int.toNat (pick (ns.getD i 0) ((v.l.length : Int) + 1)))⟩ : Bs)]) 1 tf_el33 rfl x.own (o6.rd (i := 0) rfl) (by first | omega | (simp only [List.length_append, List.length_cons, List.length_nil]; omega) | (simp; done) | (simp; omega)) (.inl rfl) rfl rfl rfl ?_
      intro A7 C8 s9 o10
      refine AtL.assign (.inl rfl) rfl rfl ?_
      refine AtL.done ?_
      refine At.region ?_
      refine AtL.move (.inl rfl) rfl rfl ?_
      refine AtL.move (.inl rfl) rfl rfl ?_
      have hleo13 := Rd.le v.rd
      refine AtL.sliceR 2 (Int.toNat (pick (ns.getD i 0) ((v.l.length : Int) + 1))) v.l.length v.C v.rd (evBound_some rfl (by omega)) rfl rfl (by intro h; cases h) (by omega) (by omega) (by omega) (by omega) Tryz.underlying22 tf_sz5 (.inl rfl) rfl rfl ?_
      clear hleo13
      intro A11 C12 (o13 : Rd tyB w0 base H A11 C12 (subl v.l (Int.toNat (pick (ns.getD i 0) ((v.l.length : Int) + 1))) v.l.length))
      have hlo13 : (subl v.l (Int.toNat (pick (ns.getD i 0) ((v.l.length : Int) + 1))) v.l.length).length = v.l.length - (Int.toNat (pick (ns.getD i 0) ((v.l.length : Int) + 1))) := subl_len (by omega)
      refine AtL.assign (.inl rfl) rfl rfl ?_
      refine AtL.done ?_
      refine At.inBlock ?_
      refine At.region ?_
      refine AtL.move (.inl rfl) rfl rfl ?_
      refine AtL.add (z := (i : Int) + 1) (.inl rfl) rfl rfl rfl (w64 (by omega) (by omega)) ?_
      refine AtL.assign (.inl rfl) rfl rfl ?_
      refine AtL.done ?_
      refine At.pick (H' := s9 :: H) [1] 2 rfl rfl ?_
      refine ihL1 (i + 1) (⟨A7, C8, x.l ++ [(⟨A1, C2, subl v.l 0 (Int.toNat (pick (ns.getD i 0) ((v.l.length : Int) + 1)))⟩ : Bs)], s9, o10⟩) (⟨A11, C12, subl v.l (Int.toNat (pick (ns.getD i 0) ((v.l.length : Int) + 1))) v.l.length, o13⟩) (⟨by dsimp only; rw [← hI, cutF_go (b := v.l) (cs := ns) (i := i) (by omega) (by omega), subl_to, subl_from]; simp, (el_app hx (el_cons (P := fun (x : Bs) => Rd tyB w0 base (H) x.A x.C x.l) o3 el_nil)), by simp only [subl_from, List.length_drop]; omega, by omega, by simp [hxi]⟩) (by omega) _ ?_
      exact ⟨rfl, rfl, slLen (by simp), rfl, trivial⟩
    · intro hc1
      have hc1 : ¬ (((i : Int) < (ns.length : Int)) ∧ (0 < (v.l.length : Int))) := of_decide_eq_false hc1
      refine At.exit rfl ?_
      refine At.seq ?_
      refine At.region ?_
      refine AtL.move (.inl rfl) rfl rfl ?_
      refine AtL.move (.inl rfl) rfl rfl ?_
      refine AtL.buildSlice (cs := [.slice v.A v.l.length v.C]) Tryz.underlying33 tf_zero22 tf_sz22 rfl rfl (.inl rfl) rfl rfl rfl ?_
      intro b14
      refine AtL.own1 tyL (l := ([(⟨v.A, v.C, v.l⟩ : Bs)] : List Bs)) rfl rfl (by first | decide | simp) ?_
      intro s15 o16
      refine AtL.append (l := x.l) (news := [(⟨v.A, v.C, v.l⟩ : Bs)]) 1 tf_el33 rfl x.own (o16.rd (i := 0) rfl) (by first | omega | (simp only [List.length_append, List.length_cons, List.length_nil]; omega) | (simp; done) | (simp; omega)) (.inl rfl) rfl rfl rfl ?_
      intro A17 C18 s19 o20
      refine AtL.assign (.inl rfl) rfl rfl ?_
      refine AtL.done ?_
      refine At.pick (H' := s19 :: H) [1] 2 rfl rfl ?_
      exact At.ret Tryz.func33 rfl rfl (⟨⟨A17, C18, x.l ++ [(⟨v.A, v.C, v.l⟩ : Bs)], s19, o20⟩, by rw [← hI, cutF_stop (b := v.l) (cs := ns) (i := i) (by omega)]; simp, (el_app hx (el_cons (P := fun (x : Bs) => Rd tyB w0 base (H) x.A x.C x.l) v.rd el_nil)), rfl, rfl⟩)
theorem run_len (b : List UInt8) : (runF b).2.1.length ≤ b.length ∧ (runF b).1.length ≤ b.length + 1 := by
  induction h : b.length using Nat.strongRecOn generalizing b with
  | _ n ih =>
    cases hh : headF14 b with
    | wait => rw [run_wait hh]; simp; omega
    | ends s => rw [run_ends hh]; simp
    | ready hd long body k =>
      have hl := head_long hh
      by_cases hs : b.length < long + body
      · rw [run_short hh hs]; simp; omega
      · cases k with
        | false => rw [run_last hh hs]; simp
        | true =>
          have := ih (b.drop (long + body)).length (by rw [List.length_drop]; omega) _ rfl
          rw [run_more hh hs]
          rw [List.length_drop] at this
          simp only [List.length_cons]; omega
theorem push_any {w0 : World} {base : Nat} {H : List Seg} {r : Nat} {x : Sl tyB 5} {ph : Rph} {g : Nat → Value} {A : Option Addr} {C : Nat} {l b : List UInt8} (h : Rd tyB w0 base H A C l) (hr : RdOk ph x b false) (hsz : b.length + l.length ≤ 999990) (T : Tabs w0 base) :
    SCalls Tryz.prog 25 [.pointer (some ⟨r, 0, none⟩), .slice A l.length C] w0 base (ph.s :: x.s :: rdC r ph x (.slice none 0 0) g :: H) (fun v H' => ∃ (its : List It) (o : Sl tyItem 49) (ph' : Rph) (x' : Sl tyB 5) (g' : Nat → Value), o.l = its.map It.v ∧ its.map It.pl = (runF (b ++ l)).1 ∧ RdOk ph' x' (runF (b ++ l)).2.1 (runF (b ++ l)).2.2 ∧ v = .tuple #[.slice o.A o.l.length o.C, int 0] ∧ H' = itS its :: o.s :: ph'.s :: x'.s :: rdC r ph' x' (.slice none 0 0) g' :: H) := by
  have hx := hr.kept rfl
  refine (rdpush_ok h hr.over hr.ok (by rw [hx]; exact hsz) T).mono ?_
  rintro v H1 ⟨its, o, ph', x', g', ho, hp, hok, hov, hkp, rfl, rfl⟩
  rw [hx] at hp hov hkp
  exact ⟨its, o, ph', x', g', ho, hp, ⟨hok, hov, fun h => hkp (hov.trans h)⟩, rfl, rfl⟩
theorem flat_snoc14 {l : List Bs} {i : Nat} (h : i < l.length) : ((l.map (·.l)).take (i + 1)).flatten = ((l.map (·.l)).take i).flatten ++ (l.getD i ⟨none, 0, []⟩).l := by
  rw [List.take_succ_eq_append_getElem (by simpa using h), List.flatten_append]
  simp [List.getD, h]
theorem run_two {P q : List UInt8} {kb : List UInt8} (h : kb = (runF P).2.1) (ho : false = (runF P).2.2) : runF (P ++ q) = ((runF P).1 ++ (runF (kb ++ q)).1, (runF (kb ++ q)).2) := by
  rw [run_app P.length P q (Nat.le_refl _), ← ho, if_neg (by simp), h]
theorem run_done {P q : List UInt8} (ho : true = (runF P).2.2) : runF (P ++ q) = runF P := by
  rw [run_app P.length P q (Nat.le_refl _), ← ho, if_pos rfl]
theorem run_pref {l : List Bs} {i : Nat} (ho : true = (runF ((l.map (·.l)).take i).flatten).2.2) : runF (l.map (·.l)).flatten = runF ((l.map (·.l)).take i).flatten := by
  have : (l.map (·.l)).flatten = ((l.map (·.l)).take i).flatten ++ ((l.map (·.l)).drop i).flatten := by rw [← List.flatten_append, List.take_append_drop]
  rw [this, run_done ho]
set_option maxHeartbeats 1000000 in
theorem pushed14_ok {w0 : World} {base : Nat} {H : List Seg} {A : Option Addr} {C : Nat} {l : List Bs} (h : Rd tyL w0 base H A C l) (he : ∀ x ∈ l, Rd tyB w0 base H x.A x.C x.l) (hl : (l.map (·.l)).flatten.length ≤ 60000) (hn : l.length ≤ 1000000) (T : Tabs w0 base) :
    SCalls Tryz.prog 32 [.slice A l.length C] w0 base (H) (fun v H' => ∃ (its : List It) (y : Sl tyItem 49), y.l = its.map It.v ∧ its.map It.pl = (runF (l.map (·.l)).flatten).1 ∧ v = .tuple #[.slice y.A y.l.length y.C, .bool (runF (l.map (·.l)).flatten).2.2, .bool true] ∧ H' = itS its :: y.s :: H) := by
  have hle0 := h.le
  have hcap0 := h.cap
  refine SCalls.of_walk (n := 46) Tryz.func32 rfl rfl rfl fun cs => ?_
  refine At.seq ?_
  refine At.region ?_
  refine AtL.assign (.inl rfl) rfl rfl ?_
  refine AtL.assign (.inl rfl) rfl rfl ?_
  refine AtL.assign (.inl rfl) rfl rfl ?_
  refine AtL.done ?_
  refine At.seq ?_
  refine At.region ?_
  refine AtL.call tf_body21 (.inl rfl) rfl rfl rdnew2 ?_
  rintro _ _ ⟨r1, ph2, x3, g4, h5, h6, rfl, rfl⟩
  have hr7 := RdOk.new h5 h6
  refine AtL.assign (.inl rfl) rfl rfl ?_
  refine AtL.done ?_
  refine At.seq ?_
  refine At.seq ?_
  refine At.region ?_
  refine AtL.move (.inl rfl) rfl rfl ?_
  refine AtL.eqPtrNil Tryz.underlying34 (.inl rfl) rfl rfl rfl ?_
  refine AtL.done ?_
  refine At.condF rfl ?_
  refine At.skip ?_
  refine At.seq ?_
  refine At.region ?_
  refine AtL.assign (.inl rfl) rfl rfl ?_
  refine AtL.done ?_
  refine At.seq ?_
  refine At.seq ?_
  refine At.region ?_
  refine AtL.assign (.inl rfl) rfl rfl ?_
  refine AtL.done ?_
  refine At.block ?_
  refine At.nil ?_
  refine At.nil ?_
  refine At.loop6 (fun (i : Nat) (y : Sl tyItem 49) (its : List It) (ph : Rph) (x : Sl tyB 5) (g : Nat → Value) => [(0, .slice A l.length C), (5, .pointer (some ⟨r1, 0, none⟩)), (6, .slice y.A y.l.length y.C), (7, .int .i64 (i : Int))]) (fun (i : Nat) (y : Sl tyItem 49) (its : List It) (ph : Rph) (x : Sl tyB 5) (g : Nat → Value) => itS its :: y.s :: ph.s :: x.s :: rdC r1 ph x (.slice none 0 0) g :: H) (fun (i : Nat) (y : Sl tyItem 49) (its : List It) (ph : Rph) (x : Sl tyB 5) (g : Nat → Value) => i ≤ l.length ∧ y.l = its.map It.v ∧ its.map It.pl = (runF ((l.map (·.l)).take i).flatten).1 ∧ RdOk ph x (runF ((l.map (·.l)).take i).flatten).2.1 (runF ((l.map (·.l)).take i).flatten).2.2) (fun (i : Nat) (y : Sl tyItem 49) (its : List It) (ph : Rph) (x : Sl tyB 5) (g : Nat → Value) => l.length - i) 0 Sl.nil [] ph2 x3 g4 (⟨Nat.zero_le _, rfl, by show [] = (runF []).1; rw [run_nil14], by show RdOk _ _ (runF []).2.1 (runF []).2.2; rw [run_nil14]; exact hr7⟩) ⟨rfl, rfl, rfl, rfl, trivial⟩ rfl ?_
  rintro i y its ph x g ⟨hi, hy, hpl, hrd⟩ ihL1
  have hT := flat_take_le (l.map (·.l)) i
  have hyl : y.l.length = (runF ((l.map (·.l)).take i).flatten).1.length := by rw [hy, ← hpl, List.length_map, List.length_map]
  have hrl := run_len ((l.map (·.l)).take i).flatten
  obtain ⟨kb, hkb⟩ : ∃ q : List UInt8, q = (runF ((l.map (·.l)).take i).flatten).2.1 := ⟨_, rfl⟩
  obtain ⟨ob, hob⟩ : ∃ q : Bool, q = (runF ((l.map (·.l)).take i).flatten).2.2 := ⟨_, rfl⟩
  rw [← hkb, ← hob] at hrd
  rw [← hkb, ← hyl] at hrl
  refine At.seq ?_
  refine At.seq ?_
  refine At.region ?_
  refine AtL.move (.inl rfl) rfl rfl ?_
  refine AtL.move (.inl rfl) rfl rfl ?_
  refine AtL.lenL Tryz.underlying33 (.inl rfl) rfl rfl ?_
  refine AtL.lss (.inl rfl) rfl rfl rfl ?_
  refine AtL.move (.inl rfl) rfl rfl ?_
  refine AtL.join 4 (E' := [(21, .bool (decide (((i : Int) < (l.length : Int)) ∧ (ob = false)))), (0, .slice A l.length C), (5, .pointer (some ⟨r1, 0, none⟩)), (6, .slice y.A y.l.length y.C), (7, .int .i64 (i : Int))]) (H' := itS its :: y.s :: ph.s :: x.s :: rdC r1 ph x (.slice none 0 0) g :: H) (fun J => ?_) ?_
  · refine AtL.split (t := 17) rfl ?_ ?_
    · intro hs17
      have hs17 : (i : Int) < (l.length : Int) := of_decide_eq_true hs17
      refine AtL.move (.inr ⟨_, _, _, rfl, rfl, rfl, rfl⟩) rfl rfl ?_
      refine AtL.pick (H' := ph.s :: x.s :: rdC r1 ph x (.slice none 0 0) g :: itS its :: y.s :: H) [2, 3, 4, 0, 1] 5 rfl rfl ?_
      refine AtL.call tf_body29 (.inr ⟨_, _, _, rfl, rfl, rfl, rfl⟩) rfl rfl (over2 hrd) ?_
      rintro _ _ ⟨rfl, rfl⟩
      refine AtL.not (.inr ⟨_, _, _, rfl, rfl, rfl, rfl⟩) rfl rfl ?_
      refine AtL.pickT (.inl rfl) rfl rfl rfl ?_
      refine AtL.pick (H' := itS its :: y.s :: ph.s :: x.s :: rdC r1 ph x (.slice none 0 0) g :: H) [3, 4, 0, 1, 2] 5 rfl rfl ?_
      exact J _ (by exact ⟨(boolIs (by clear J; first | (simp [hs17]; done) | (simp_all; done) | grind)), rfl, rfl, rfl, rfl, trivial⟩)
    · intro hs17
      have hs17 : ¬ ((i : Int) < (l.length : Int)) := of_decide_eq_false hs17
      refine AtL.skipped rfl rfl rfl rfl rfl rfl ?_
      refine AtL.skipped rfl rfl rfl rfl rfl rfl ?_
      refine AtL.skipped rfl rfl rfl rfl rfl rfl ?_
      refine AtL.pickF (.inl rfl) rfl rfl rfl ?_
      exact J _ (by exact ⟨(boolIs (by clear J; first | (simp [hs17]; done) | (simp_all; done) | grind)), rfl, rfl, rfl, rfl, trivial⟩)
  · skip
    refine AtL.done ?_
    refine At.cond rfl ?_ ?_
    · intro hc2
      have hc2 : ((i : Int) < (l.length : Int)) ∧ (ob = false) := of_decide_eq_true hc2
      obtain rfl : ob = false := by first | exact hc2.2 | simpa using hc2.2
      have hlen := flat_getD_le (l.map (·.l)) i
      have hg : (l.map (·.l)).getD i [] = (l.getD i ⟨none, 0, []⟩).l := by simp [List.getD, show i < l.length by omega]
      rw [hg] at hlen
      have hT1 := flat_take_le (l.map (·.l)) (i + 1)
      rw [flat_snoc14 (show i < l.length by omega), List.length_append] at hT1
      refine At.skip ?_
      refine At.seq ?_
      refine At.block ?_
      refine At.seq ?_
      refine At.region ?_
      refine AtL.move (.inl rfl) rfl rfl ?_
      refine AtL.move (.inl rfl) rfl rfl ?_
      refine AtL.move (.inl rfl) rfl rfl ?_
      refine AtL.indexL i (Rd.skip 5 h) Tryz.underlying33 tf_sz22 (.inl rfl) rfl rfl rfl rfl (by omega) ?_
      refine AtL.load (v := .slice ((l.getD i (⟨none, 0, []⟩ : Bs)).A) ((l.getD i (⟨none, 0, []⟩ : Bs)).l).length ((l.getD i (⟨none, 0, []⟩ : Bs)).C)) tf_flat22 (.inl rfl) rfl rfl (Rd.cell0 (Rd.skip 5 h) (getD_some (⟨none, 0, []⟩ : Bs) (by omega)) rfl) ?_
      refine AtL.pick (H' := ph.s :: x.s :: rdC r1 ph x (.slice none 0 0) g :: itS its :: y.s :: H) [2, 3, 4, 0, 1] 5 rfl rfl ?_
      refine AtL.call tf_body25 (.inl rfl) rfl rfl (push_any (l := (l.getD i (⟨none, 0, []⟩ : Bs)).l) (Rd.skip 2 (he _ (getD_mem (l := l) (i := i) (d := (⟨none, 0, []⟩ : Bs)) (by omega)))) hrd (by omega) T) ?_
      rintro _ _ ⟨its8, o9, ph10, x11, g12, ho13, hp14, hr15, rfl, rfl⟩
      obtain ⟨kb16, hkb18⟩ : ∃ q : List UInt8, q = (runF (kb ++ (l.getD i (⟨none, 0, []⟩ : Bs)).l)).2.1 := ⟨_, rfl⟩
      obtain ⟨ob17, hob19⟩ : ∃ q : Bool, q = (runF (kb ++ (l.getD i (⟨none, 0, []⟩ : Bs)).l)).2.2 := ⟨_, rfl⟩
      rw [← hkb18, ← hob19] at hr15
      have ho13e : ∀ x ∈ o9.l, Rd tyField w0 base (itS its8 :: H) x.2.2.2.2.1.A x.2.2.2.2.1.C x.2.2.2.2.1.l ∧ Rd tyB w0 base (itS its8 :: H) x.2.2.2.2.2.1.A x.2.2.2.2.2.1.C x.2.2.2.2.2.1.l := by rw [ho13]; exact it_el its8 w0 base H
      have ho13l : o9.l.length = (runF (kb ++ (l.getD i (⟨none, 0, []⟩ : Bs)).l)).1.length := by rw [ho13, ← hp14, List.length_map, List.length_map]
      have ho13n := run_len (kb ++ (l.getD i (⟨none, 0, []⟩ : Bs)).l)
      rw [← hkb18, ← ho13l, List.length_append] at ho13n
      refine AtL.move (.inl rfl) rfl rfl ?_
      refine AtL.extract (.inl rfl) rfl rfl rfl ?_
      refine AtL.extract (.inl rfl) rfl rfl rfl ?_
      refine AtL.assign (.inl rfl) rfl rfl ?_
      refine AtL.assign (.inl rfl) rfl rfl ?_
      refine AtL.done ?_
      refine At.seq ?_
      refine At.seq ?_
      refine At.region ?_
      refine AtL.move (.inl rfl) rfl rfl ?_
      refine AtL.nei (.inl rfl) rfl rfl rfl ?_
      refine AtL.move (.inl rfl) rfl rfl ?_
      refine AtL.move (.inr ⟨_, _, _, rfl, rfl, rfl, rfl⟩) rfl rfl ?_
      refine AtL.pick (H' := ph10.s :: x11.s :: rdC r1 ph10 x11 (.slice none 0 0) g12 :: itS its8 :: o9.s :: itS its :: y.s :: H) [2, 3, 4, 0, 1, 5, 6] 7 rfl rfl ?_
      refine AtL.call tf_body28 (.inr ⟨_, _, _, rfl, rfl, rfl, rfl⟩) rfl rfl (left2 hr15) ?_
      rintro _ _ ⟨rfl, rfl⟩
      refine AtL.gtr (.inr ⟨_, _, _, rfl, rfl, rfl, rfl⟩) rfl rfl rfl ?_
      refine AtL.pickF (.inl rfl) rfl rfl rfl ?_
      refine AtL.done ?_
      refine At.cond rfl ?_ ?_
      · intro hc3
        have hc3 : 69631 < ((if ob17 then 0 else (kb16).length : Nat) : Int) := of_decide_eq_true hc3
        exfalso; have h8 : (if ob17 then 0 else (kb16).length) ≤ (kb16).length := by split <;> omega
        omega
      · intro hc3
        have hc3 : ¬ (69631 < ((if ob17 then 0 else (kb16).length : Nat) : Int)) := of_decide_eq_false hc3
        refine At.skip ?_
        refine At.region ?_
        refine AtL.move (.inl rfl) rfl rfl ?_
        refine AtL.move (.inl rfl) rfl rfl ?_
        refine AtL.append (l := y.l) (news := o9.l) 6 tf_el40 rfl y.own (o9.own.rd (i := 4) rfl) (by first | omega | (simp only [List.length_append, List.length_cons, List.length_nil]; omega) | (simp; done) | (simp; omega)) (.inl rfl) rfl rfl rfl ?_
        intro A20 C21 s22 o23
        refine AtL.assign (.inl rfl) rfl rfl ?_
        refine AtL.done ?_
        refine At.inBlock ?_
        refine At.region ?_
        refine AtL.move (.inl rfl) rfl rfl ?_
        refine AtL.add (z := (i : Int) + 1) (.inl rfl) rfl rfl rfl (w64 (by omega) (by omega)) ?_
        refine AtL.assign (.inl rfl) rfl rfl ?_
        refine AtL.done ?_
        refine At.pick (H' := itS its :: itS its8 :: ph10.s :: x11.s :: rdC r1 ph10 x11 (.slice none 0 0) g12 :: o9.s :: s22 :: H) [5, 3, 0, 1, 2, 4, 6] 7 rfl rfl ?_
        refine At.flat (flat_merge _ _ _) ?_
        rw [show (itS its ++ itS its8 : Seg) = itS (its ++ its8) from (itS_app _ _).symm]
        refine At.pick (H' := itS (its ++ its8) :: s22 :: ph10.s :: x11.s :: rdC r1 ph10 x11 (.slice none 0 0) g12 :: H) [0, 5, 1, 2, 3] 6 rfl rfl ?_
        refine ihL1 (i + 1) (⟨A20, C21, y.l ++ o9.l, s22, o23⟩) (its ++ its8) ph10 x11 g12 (⟨by omega, by dsimp only; rw [hy, ho13, List.map_append], by rw [flat_snoc14 (by omega), run_two hkb hob, List.map_append, hpl, hp14], by rw [flat_snoc14 (by omega), run_two hkb hob]; rw [hkb18, hob19] at hr15; exact hr15⟩) (by omega) _ ?_
        exact ⟨rfl, (by first | rfl | exact slLen (by simp []) | exact intEq (by omega) | exact intEq (by simp []) | exact slLen (by simp []; omega)), (by first | rfl | exact slLen (by simp []) | exact intEq (by omega) | exact intEq (by simp []) | exact slLen (by simp []; omega)), (by first | rfl | exact slLen (by simp []) | exact intEq (by omega) | exact intEq (by simp []) | exact slLen (by simp []; omega)), trivial⟩
    · intro hc2
      have hc2 : ¬ (((i : Int) < (l.length : Int)) ∧ (ob = false)) := of_decide_eq_false hc2
      refine At.exit rfl ?_
      refine At.seq ?_
      refine At.region ?_
      refine AtL.move (.inl rfl) rfl rfl ?_
      refine AtL.move (.inl rfl) rfl rfl ?_
      refine AtL.pick (H' := ph.s :: x.s :: rdC r1 ph x (.slice none 0 0) g :: itS its :: y.s :: H) [2, 3, 4, 0, 1] 5 rfl rfl ?_
      refine AtL.call tf_body29 (.inl rfl) rfl rfl (over2 hrd) ?_
      rintro _ _ ⟨rfl, rfl⟩
      refine AtL.assign (.inl rfl) rfl rfl ?_
      refine AtL.assign (.inl rfl) rfl rfl ?_
      refine AtL.assign (.inl rfl) rfl rfl ?_
      refine AtL.done ?_
      have hE : runF (l.map (·.l)).flatten = runF ((l.map (·.l)).take i).flatten := by
        rcases Nat.lt_or_ge i l.length with h9 | h9
        · have ho : ob = true := by cases ob <;> simp_all
          exact run_pref (by rw [← ho]; exact hob)
        · rw [List.take_of_length_le (by simpa using h9)]
      refine At.pick (H' := itS its :: y.s :: H) [3, 4] 5 rfl rfl ?_
      exact At.ret Tryz.func32 rfl rfl (⟨its, y, hy, by rw [hE]; exact hpl, by rw [hE, ← hob]; rfl, rfl⟩)
end Go.Proofs.YtlkdmbpbjhjkfaaGreatDoor
namespace Go.Proofs.YtlkdmbpbjhjkfaaGreatDoor
set_option linter.unusedVariables false
set_option linter.unusedSimpArgs false
set_option maxRecDepth 100000
theorem fieldsB_two (fs : List Fld) : 2 ≤ (fieldsB fs).length := by
  cases fs with
  | nil => decide
  | cons f fs => simp only [fieldsB, List.length_append, List.length_cons]; omega
theorem index13 {s t : List UInt8} (hs : s.any crlf = false) (h : 0 ≤ Lib.index t CR2) : Lib.index (s ++ t) CR2 = (s.length : Int) + Lib.index t CR2 := by
  induction s with
  | nil => simp
  | cons a s ih =>
    have h1 : crlf a = false := by simp only [List.any_cons, Bool.or_eq_false_iff] at hs; exact hs.1
    have h2 : s.any crlf = false := by simp only [List.any_cons, Bool.or_eq_false_iff] at hs; exact hs.2
    have h3 : ¬ (13 : UInt8) = a := by rintro rfl; revert h1; decide
    have hp : List.isPrefixOf CR2 (a :: (s ++ t)) = false := by
      simp only [CR2, List.isPrefixOf, Bool.and_eq_false_iff, beq_eq_false_iff_ne]; exact .inl h3
    have hi := ih h2
    rw [List.cons_append, Lib.index, hp, hi]
    have h4 : ¬ ((s.length : Int) + Lib.index t CR2 == -1) = true := by simp only [beq_iff_eq]; omega
    simp only [if_neg h4, Bool.false_eq_true, if_false, List.length_cons]
    omega
theorem index_crlf {c : UInt8} {r : List UInt8} (hc : crlf c = false) (h : 0 ≤ Lib.index (c :: r) CR2) : Lib.index (13 :: 10 :: c :: r) CR2 = Lib.index (c :: r) CR2 + 2 := by
  have h3 : ¬ (13 : UInt8) = c := by rintro rfl; revert hc; decide
  have hp1 : List.isPrefixOf CR2 (13 :: 10 :: c :: r) = false := by simp [CR2, List.isPrefixOf, h3]
  have hp2 : List.isPrefixOf CR2 (10 :: c :: r) = false := by simp [CR2, List.isPrefixOf]
  have e2 : Lib.index (10 :: c :: r) CR2 = Lib.index (c :: r) CR2 + 1 := by
    have h4 : ¬ (Lib.index (c :: r) CR2 == -1) = true := by simp only [beq_iff_eq]; omega
    rw [Lib.index, hp2]; simp only [if_neg h4, Bool.false_eq_true, if_false]
  have h5 : ¬ (Lib.index (c :: r) CR2 + 1 == -1) = true := by simp only [beq_iff_eq]; omega
  rw [Lib.index, hp1, e2]; simp only [if_neg h5, Bool.false_eq_true, if_false]
  omega
theorem idx_head (fs : List Fld) (s : List UInt8) (hs : s.any crlf = false) (ha : fs.all fieldOk = true) : Lib.index (s ++ 13 :: 10 :: fieldsB fs) CR2 = ((s ++ 13 :: 10 :: fieldsB fs).length : Int) - 4 := by
  induction fs generalizing s with
  | nil =>
    have e : Lib.index (13 :: 10 :: fieldsB []) CR2 = 0 := by decide +kernel
    have e2 : (fieldsB []).length = 2 := rfl
    rw [index13 hs (by omega), e, List.length_append, List.length_cons, List.length_cons, e2]; omega
  | cons f fs ih =>
    simp only [List.all_cons, Bool.and_eq_true] at ha
    have hf := (field_line ha.1).1
    have hw := (word_cl (by have := ha.1; simp only [fieldOk, Bool.and_eq_true] at this; exact this.1)).1
    have hi := ih (fieldB f) hf ha.2
    cases hq : fieldB f ++ 13 :: 10 :: fieldsB fs with
    | nil => simp at hq
    | cons c r =>
      have hc : crlf c = false := by
        cases h1 : f.1 with
        | nil => exact absurd h1 hw
        | cons d u =>
          rw [fieldB, h1, List.cons_append, List.cons_append] at hq
          have : d = c := (List.cons.inj hq).1
          subst this
          rw [fieldB, h1, List.cons_append, List.any_cons, Bool.or_eq_false_iff] at hf
          exact hf.1
      rw [hq] at hi
      have hl : 4 ≤ (c :: r).length := by
        rw [← hq, List.length_append, List.length_cons, List.length_cons]
        have := fieldsB_two fs
        omega
      have e : fieldsB (f :: fs) = c :: r := by rw [← hq]; rfl
      rw [e, index13 hs (by rw [index_crlf hc (by omega)]; omega), index_crlf hc (by omega), hi]
      simp only [List.length_append, List.length_cons]
      omega
def HostN : List UInt8 := [72, 111, 115, 116]
def ConnN : List UInt8 := [67, 111, 110, 110, 101, 99, 116, 105, 111, 110]
def CloseV : List UInt8 := [99, 108, 111, 115, 101]
def GETH : List UInt8 := [71, 69, 84]
def askFs (n : Nat) (post keep : Bool) : List Fld := ([(HostN, [120])] ++ (if keep = true then [] else [(ConnN, CloseV)])) ++ (if post = true ∨ 0 < n then [(CL1, decF n)] else [])
def askHd (post : Bool) (n : Nat) (t : List UInt8) (keep : Bool) : HeadV := ⟨if post = true then POSTH else GETH, t, 1, askFs n post keep⟩
theorem nm_facts : (¬ lowerF HostN = lowerF TENC ∧ ¬ lowerF ConnN = lowerF TENC ∧ ¬ lowerF CL1 = lowerF TENC) ∧ (¬ lowerF HostN = lowerF CLEN ∧ ¬ lowerF ConnN = lowerF CLEN ∧ lowerF CL1 = lowerF CLEN) ∧ (¬ lowerF HostN = lowerF EXPECT ∧ ¬ lowerF ConnN = lowerF EXPECT ∧ ¬ lowerF CL1 = lowerF EXPECT) ∧ (¬ lowerF HostN = lowerF CONN ∧ lowerF ConnN = lowerF CONN ∧ ¬ lowerF CL1 = lowerF CONN) := by decide +kernel
theorem ask_te (n : Nat) (post keep : Bool) : fieldF (askFs n post keep) TENC = ([], 0) := by
  obtain ⟨⟨a, b, c⟩, _, _, _⟩ := nm_facts
  by_cases h : post = true ∨ 0 < n <;> cases keep <;> simp [askFs, fieldF, allF, a, b, c, h]
theorem ask_ex (n : Nat) (post keep : Bool) : (fieldF (askFs n post keep) EXPECT).2 = 0 := by
  obtain ⟨_, _, ⟨a, b, c⟩, _⟩ := nm_facts
  by_cases h : post = true ∨ 0 < n <;> cases keep <;> simp [askFs, fieldF, allF, a, b, c, h]
theorem ask_cl (n : Nat) (post keep : Bool) : allF (askFs n post keep) CLEN = if post = true ∨ 0 < n then [decF n] else [] := by
  obtain ⟨_, ⟨a, b, c⟩, _, _⟩ := nm_facts
  by_cases h : post = true ∨ 0 < n <;> cases keep <;> simp [askFs, allF, a, b, c, h]
theorem ask_cn (n : Nat) (post keep : Bool) : allF (askFs n post keep) CONN = if keep = true then [] else [CloseV] := by
  obtain ⟨_, _, _, ⟨a, b, c⟩⟩ := nm_facts
  by_cases h : post = true ∨ 0 < n <;> cases keep <;> simp [askFs, allF, a, b, c, h]
theorem ask_length (n : Nat) (hn : n ≤ 600) (post keep : Bool) : lengthF (askFs n post keep) = (if post = true ∨ 0 < n then (n : Int) else -1, 200) := by
  rw [lengthF, ask_te, ask_cl]
  by_cases h : post = true ∨ 0 < n
  · simp only [if_pos h]
    simp [size_dec n (by omega), show ¬ 65535 < n by omega]
  · simp only [if_neg h]; rfl
theorem ask_keep (n : Nat) (post keep : Bool) : keepF (askFs n post keep) 1 = keep := by
  rw [keepF, wordsF, ask_cn]
  cases keep
  · decide +kernel
  · decide +kernel
theorem ask_ready (post keep : Bool) (t : List UInt8) (n : Nat) (hn : n ≤ 600) (hw : writeE (askHd post n t keep) = 0) : headF14 (writeL (askHd post n t keep)) = .ready (askHd post n t keep) (writeL (askHd post n t keep)).length n keep := by
  have hok : writeOk (askHd post n t keep) = true := by
    cases hq : writeOk (askHd post n t keep) with
    | true => rfl
    | false => rw [writeE, hq] at hw; cases hw
  have hp := back1 _ hok
  have hL : writeL (askHd post n t keep) = headB (askHd post n t keep) := by rw [writeL, if_pos hok]
  have hok2 := hok
  simp only [writeOk, Bool.and_eq_true, decide_eq_true_eq] at hok2
  obtain ⟨ho, hlen⟩ := hok2
  simp only [okF, Bool.and_eq_true, decide_eq_true_eq] at ho
  obtain ⟨⟨⟨⟨⟨⟨hm, ht1⟩, ht⟩, hmin⟩, hfs⟩, hall⟩, hh⟩ := ho
  obtain ⟨m1, m2, m3, _⟩ := word_cl hm
  obtain ⟨t1, t2, t3⟩ := target_cl ht
  obtain ⟨v1, v2, v3, v4, v5, v6, v7⟩ := ver_c (askHd post n t keep).minor.toNat (by show (1 : Int).toNat ≤ 1; decide)
  have hl : (lineB (askHd post n t keep)).any crlf = false := by
    rw [lineB, List.any_append, m2, List.any_cons, List.any_append, t2, List.any_cons, v6]; decide
  have hi : Lib.index (headB (askHd post n t keep)) CR2 = ((headB (askHd post n t keep)).length : Int) - 4 := idx_head _ _ hl hall
  have h4 : 4 ≤ (headB (askHd post n t keep)).length := by
    have := fieldsB_two (askHd post n t keep).fs
    rw [headB, List.length_append, List.length_cons, List.length_cons]; omega
  rw [hL]
  have e4 : (((headB (askHd post n t keep)).length : Int) - 4).toNat + 4 = (headB (askHd post n t keep)).length := by omega
  rw [headF14, hi, if_neg (by omega), e4, askR, List.take_length, hp]
  have f1 : (fieldF (askHd post n t keep).fs EXPECT).2 = 0 := ask_ex n post keep
  have f2 : lengthF (askHd post n t keep).fs = (if post = true ∨ 0 < n then (n : Int) else -1, 200) := ask_length n hn post keep
  have f3 : keepF (askHd post n t keep).fs (askHd post n t keep).minor = keep := ask_keep n post keep
  dsimp only
  rw [if_neg (by simp), f1, if_neg (by omega), f2]
  dsimp only
  rw [if_neg (by simp), if_neg, f3]
  · congr 1
    by_cases h : post = true ∨ 0 < n
    · rw [if_pos h]; omega
    · rw [if_neg h]; have : n = 0 := by omega
      subst this; rfl
  · rintro ⟨h1, h2⟩
    by_cases h : post = true ∨ 0 < n
    · rw [if_pos h] at h1; omega
    · have h3 : ¬ post = true := fun q => h (.inl q)
      simp only [askHd, if_neg h3] at h2
      revert h2; decide
theorem ask_run (post keep : Bool) (t body : List UInt8) (hn : body.length ≤ 600) (hw : writeE (askHd post body.length t keep) = 0) : runF (writeL (askHd post body.length t keep) ++ body) = ([⟨200, askHd post body.length t keep, body, keep⟩], [], !keep) := by
  have hr := ask_ready post keep t body.length hn hw
  have hh := (head_app (x := body) (by rw [hr]; simp)).trans hr
  have hl : ¬ (writeL (askHd post body.length t keep) ++ body).length < (writeL (askHd post body.length t keep)).length + body.length := by rw [List.length_append]; omega
  have e1 : ((writeL (askHd post body.length t keep) ++ body).drop (writeL (askHd post body.length t keep)).length).take body.length = body := by
    rw [List.drop_left, List.take_length]
  have e2 : (writeL (askHd post body.length t keep) ++ body).drop ((writeL (askHd post body.length t keep)).length + body.length) = [] := List.drop_eq_nil_of_le (by rw [List.length_append]; exact Nat.le_refl _)
  cases keep with
  | false => rw [run_last hh hl, e1]; rfl
  | true => rw [run_more hh hl, e1, e2, run_nil14]; rfl
theorem writeL_len (h : HeadV) : (writeL h).length ≤ 4096 := by
  rw [writeL]
  split
  · rename_i hok
    simp only [writeOk, Bool.and_eq_true, decide_eq_true_eq] at hok
    exact hok.2
  · exact Nat.zero_le _
theorem askFs_small (n : Nat) (hn : n ≤ 600) (post keep : Bool) : (askFs n post keep).length ≤ 1000 ∧ szF (askFs n post keep) ≤ 1000 := by
  have hd : (decF n).length ≤ 10 := (decF_num n).2.2 9 (by have : (10 : Nat) ^ 10 = 10000000000 := by decide
                                                           omega)
  by_cases h : post = true ∨ 0 < n <;> cases keep <;> simp [askFs, szF, h, HostN, ConnN, CloseV, CL1] <;> omega
theorem run_next {y x : List UInt8} {W i : List ItV} {ov o : Bool} (h : runF y = (W, [], ov)) (hx : runF x = (i, [], o)) : runF (y ++ x) = if ov = true then (W, [], true) else (W ++ i, [], o) := by
  rw [run_app y.length y x (Nat.le_refl _), h]
  cases ov
  · simp [hx]
  · simp
def tyAsk : Ty (Bool × Vs UInt8 × List UInt8 × Bool) := { val := fun x => .agg #[.bool x.1, .slice x.2.1.A x.2.1.l.length x.2.1.C, str x.2.2.1, .bool x.2.2.2], sz := 4, ok := fun _ => rfl, plain := fun x c hc => by simp [str, Value.cells] at hc; rcases hc with rfl | rfl | rfl | rfl <;> rfl }
theorem dig_int14 (n : Nat) : UInt8.ofInt (48 + (n : Int) % 10) = UInt8.ofNat (48 + n % 10) := by
  rw [UInt8.ofInt]
  congr 1
  omega
theorem dec_len14 (n : Nat) (h : n ≤ 1073741824) : (decF n).length ≤ 10 := by
  refine (decF_num n).2.2 9 ?_
  have h2 : (10 : Nat) ^ 10 = 10000000000 := by decide
  omega
theorem dec_rec14 {n : Nat} (h : ¬ n < 10) : decF n = decF (n / 10) ++ [UInt8.ofNat (48 + n % 10)] := by
  conv => lhs; rw [decF, if_neg h]
theorem dig_lt14 (n : Nat) (h : n < 10) : UInt8.ofInt (48 + (n : Int)) = UInt8.ofNat (48 + n) := by
  rw [UInt8.ofInt]
  congr 1
  omega
set_option maxHeartbeats 400000 in
theorem decimal14_step {w0 : World} {base : Nat} {H : List Seg} (n : Nat) (hn : n ≤ 1073741824) (ih : 10 ≤ n → ∀ {H : List Seg}, SCalls Tryz.prog 51 [int ((n : Int) / 10)] w0 base H (fun v H' => v = str (decF (n / 10)) ∧ H' = H)) :
    SCalls Tryz.prog 51 [.int .i64 (n : Int)] w0 base (H) (fun v H' => v = str (decF n) ∧ H' = H) := by
  refine SCalls.of_walk (n := 20) Tryz.func51 rfl rfl rfl fun cs => ?_
  refine At.seq ?_
  refine At.region ?_
  refine AtL.assign (.inl rfl) rfl rfl ?_
  refine AtL.done ?_
  refine At.seq ?_
  refine At.seq ?_
  refine At.region ?_
  refine AtL.move (.inl rfl) rfl rfl ?_
  refine AtL.lss (.inl rfl) rfl rfl rfl ?_
  refine AtL.done ?_
  refine At.cond rfl ?_ ?_
  · intro hc1
    have hc1 : (n : Int) < 10 := of_decide_eq_true hc1
    refine At.seq ?_
    refine At.region ?_
    refine AtL.move (.inl rfl) rfl rfl ?_
    refine AtL.add (z := 48 + (n : Int)) (.inl rfl) rfl rfl rfl (w64 (by omega) (by omega)) ?_
    refine AtL.convInt (z := ((UInt8.ofInt (48 + (n : Int))).toNat : Int)) Tryz.underlying3 Tryz.underlying5 (.inl rfl) rfl rfl (u8_conv _) ?_
    refine AtL.buildSlice (cs := [.int .u8 ((UInt8.ofInt (48 + (n : Int))).toNat : Int)]) Tryz.underlying22 tf_zero5 tf_sz5 rfl rfl (.inl rfl) rfl rfl rfl ?_
    intro b1
    refine AtL.own1 tyB (l := ([(UInt8.ofInt (48 + (n : Int)))] : List UInt8)) rfl rfl (by first | decide | simp) ?_
    intro s2 o3
    refine AtL.strOf (o3.rd (i := 0) rfl) Tryz.underlying22 Tryz.underlying5 Tryz.underlying9 (.inl rfl) rfl rfl ?_
    refine AtL.assign (.inl rfl) rfl rfl ?_
    refine AtL.done ?_
    refine At.pick (H' := H) [] 1 rfl rfl ?_
    exact At.ret Tryz.func51 rfl rfl (⟨by rw [decF, if_pos (by omega), dig_lt14 n (by omega)]; first | done | rfl, rfl⟩)
  · intro hc1
    have hc1 : ¬ ((n : Int) < 10) := of_decide_eq_false hc1
    refine At.skip ?_
    refine At.seq ?_
    refine At.draw (es := [7]) (pv := [(0, .int .i64 (n : Int)), (1, .int .i64 ((n : Int) / 10)), (2, str (decF (n / 10))), (3, .int .i64 (n : Int)), (4, .int .i64 ((n : Int) % 10)), (5, .int .i64 (48 + ((n : Int) % 10))), (6, .int .u8 ((UInt8.ofInt (48 + ((n : Int) % 10))).toNat : Int))]) tf_mixed (by kernel_rfl) (by kernel_rfl) (by kernel_rfl) ?_
    refine ⟨⟨.inr ⟨_, rfl, rfl, .inl ⟨rfl, Do.move rfl⟩⟩, .inr ⟨_, rfl, rfl, .inl ⟨rfl, Do.quo (z := (n : Int) / 10) rfl rfl (by omega) (quo_eq (by omega) (by omega) (by omega))⟩⟩, .inr ⟨_, rfl, rfl, .inl ⟨rfl, Do.call tf_body51 rfl (ih (by omega))⟩⟩, .inr ⟨_, rfl, rfl, .inl ⟨rfl, Do.move rfl⟩⟩, .inr ⟨_, rfl, rfl, .inl ⟨rfl, Do.rem (z := (n : Int) % 10) rfl rfl (by omega) (rem_eq (by omega))⟩⟩, .inr ⟨_, rfl, rfl, .inl ⟨rfl, Do.add (z := 48 + ((n : Int) % 10)) rfl rfl (w64 (by omega) (by omega))⟩⟩, .inr ⟨_, rfl, rfl, .inl ⟨rfl, Do.convInt (z := ((UInt8.ofInt (48 + ((n : Int) % 10))).toNat : Int)) Tryz.underlying3 Tryz.underlying5 rfl (u8_conv _)⟩⟩, trivial⟩, rfl, rfl, by kernel_rfl, _, rfl, rfl, rfl, _, Do.own1 tyB (l := ([(UInt8.ofInt (48 + ((n : Int) % 10)))] : List UInt8)) (Do.buildSlice (cs := [.int .u8 ((UInt8.ofInt (48 + ((n : Int) % 10))).toNat : Int)]) Tryz.underlying22 tf_zero5 tf_sz5 rfl rfl rfl rfl) rfl rfl (by first | decide | simp), ?_⟩
    rintro _ _ ⟨b4, s5, o6, rfl, rfl⟩
    refine ⟨[(8, str [(UInt8.ofInt (48 + ((n : Int) % 10)))]), (9, str ((decF (n / 10)) ++ [(UInt8.ofInt (48 + ((n : Int) % 10)))])), (10, str ((decF (n / 10)) ++ [(UInt8.ofInt (48 + ((n : Int) % 10)))]))], rfl, ?_⟩
    refine ⟨⟨.inr ⟨_, rfl, rfl, .inl ⟨rfl, Do.strOf (o6.rd (i := 0) rfl) Tryz.underlying22 Tryz.underlying5 Tryz.underlying9 rfl⟩⟩, .inr ⟨_, rfl, rfl, .inl ⟨rfl, Do.cat rfl rfl (by have h1 := dec_len14 (n / 10) (by omega); simp only [List.length_cons, List.length_nil]; omega)⟩⟩, .inr ⟨_, rfl, rfl, .inl ⟨rfl, Do.assign rfl⟩⟩, .inr ⟨_, rfl, rfl, .inl ⟨rfl, Do.move rfl⟩⟩, .inr ⟨_, rfl, rfl, .inl ⟨rfl, Do.quo (z := (n : Int) / 10) rfl rfl (by omega) (quo_eq (by omega) (by omega) (by omega))⟩⟩, .inr ⟨_, rfl, rfl, .inl ⟨rfl, Do.call tf_body51 rfl (ih (by omega))⟩⟩, .inl (by kernel_rfl), .inl (by kernel_rfl), .inl (by kernel_rfl), .inl (by kernel_rfl), trivial⟩, by kernel_rfl, ?_⟩
    refine At.mono (E' := [(2, str ((decF (n / 10)) ++ [(UInt8.ofInt (48 + ((n : Int) % 10)))]))]) ⟨rfl, trivial⟩ ?_
    refine At.pick (H' := H) [] 1 rfl rfl ?_
    exact At.ret Tryz.func51 rfl rfl (⟨by rw [dec_rec14 (n := n) (by omega), dig_int14]; first | done | rfl, rfl⟩)
theorem decimal14_ok {w0 : World} {base : Nat} (n : Nat) (hn : n ≤ 1073741824) : ∀ {H : List Seg}, SCalls Tryz.prog 51 [int (n : Int)] w0 base H (fun v H' => v = str (decF n) ∧ H' = H) := by
  induction n using Nat.strongRecOn with
  | _ n ih =>
    intro H
    refine decimal14_step n hn (fun h10 {H} => ?_)
    have := ih (n / 10) (by omega) (by omega) (H := H)
    rwa [show ((n / 10 : Nat) : Int) = (n : Int) / 10 by omega] at this
set_option maxHeartbeats 1000000 in
theorem request_ok {w0 : World} {base : Nat} {H : List Seg} {A : Option Addr} {C : Nat} {body t : List UInt8} (hb : Rd tyB w0 base H A C body) (post keep : Bool) (hbl : body.length ≤ 600) (htl : t.length ≤ 3000) :
    SCalls Tryz.prog 34 [.agg #[.bool post, .slice A body.length C, str t, .bool keep]] w0 base (H) (fun v H' => ∃ (x : Sl tyB 5) (f : Sl tyField 78), x.l = writeL (askHd post body.length t keep) ++ body ∧ f.l = (askHd post body.length t keep).fs ∧ v = .tuple #[.slice x.A x.l.length x.C, .agg #[str (askHd post body.length t keep).m, str t, int 1, .slice f.A f.l.length f.C], .bool (decide (writeE (askHd post body.length t keep) = 0))] ∧ H' = x.s :: f.s :: H) := by
  have hle0 := hb.le
  have hcap0 := hb.cap
  have hdl := dec_len14 body.length (by omega)
  have hwl := writeL_len (askHd post body.length t keep)
  refine SCalls.of_walk (n := 55) Tryz.func34 rfl rfl rfl fun cs => ?_
  refine At.seq ?_
  refine At.region ?_
  refine AtL.box (cs := #[.bool post, .slice A body.length C, str t, .bool keep]) rfl (.inl rfl) rfl rfl ?_
  intro b1
  refine AtL.assign (.inl rfl) rfl rfl ?_
  refine AtL.alloc tf_zero47 (cs := #[str [], str [], .int .i64 0, .slice none 0 0]) rfl (.inl rfl) rfl ?_
  intro b2
  refine AtL.assign (.inl rfl) rfl rfl ?_
  refine AtL.done ?_
  refine At.seq ?_
  refine At.region ?_
  refine AtL.fieldAddrB tf_fo63_2 (.inl rfl) rfl rfl rfl ?_
  refine AtL.load tf_flat9 (.inl rfl) rfl rfl (Cell.own 1 0 rfl rfl rfl) ?_
  refine AtL.build (cs := [str [72, 111, 115, 116], str [120]]) tf_lay78 (.inl rfl) rfl rfl rfl ?_
  refine AtL.buildSlice (cs := [str [72, 111, 115, 116], str [120]]) Tryz.underlying45 tf_zero78 tf_sz78 rfl rfl (.inl rfl) rfl rfl rfl ?_
  intro b3
  refine AtL.own1 tyField (l := ([(([72, 111, 115, 116] : List UInt8), ([120] : List UInt8))] : List (List UInt8 × List UInt8))) rfl rfl (by first | decide | simp) ?_
  intro s4 o5
  refine AtL.build (cs := [str [71, 69, 84], str t, .int .i64 1, .slice (some ⟨b3, 0, none⟩) ([(([72, 111, 115, 116] : List UInt8), ([120] : List UInt8))]).length 1]) tf_lay47 (.inl rfl) rfl rfl rfl ?_
  refine AtL.alloc tf_zero47 (cs := #[str [], str [], .int .i64 0, .slice none 0 0]) rfl (.inl rfl) rfl ?_
  intro b6
  refine AtL.store (H' := [(b6, .cells #[str [71, 69, 84], str t, .int .i64 1, .slice (some ⟨b3, 0, none⟩) ([(([72, 111, 115, 116] : List UInt8), ([120] : List UInt8))]).length 1] 47 (0, 0))] :: s4 :: [(b2, .cells #[str [], str [], .int .i64 0, .slice none 0 0] 47 (0, 0))] :: [(b1, .cells #[.bool post, .slice A body.length C, str t, .bool keep] 63 (0, 0))] :: H) 0 0 tf_sz47 (.inl rfl) rfl rfl rfl rfl rfl rfl rfl rfl rfl ?_
  refine AtL.done ?_
  refine At.seq ?_
  refine At.seq ?_
  refine At.region ?_
  refine AtL.fieldAddrB tf_fo63_3 (.inl rfl) rfl rfl rfl ?_
  refine AtL.load tf_flat4 (.inl rfl) rfl rfl (Cell.own 3 0 rfl rfl rfl) ?_
  refine AtL.not (.inl rfl) rfl rfl ?_
  refine AtL.done ?_
  refine At.cond rfl ?_ ?_
  · intro hc1
    have hc1 : keep = false := bnot_true hc1
    obtain rfl : keep = false := by simpa using hc1
    refine At.region ?_
    refine AtL.fieldAddrB tf_fo47_3 (.inl rfl) rfl rfl rfl ?_
    refine AtL.load tf_flat45 (.inl rfl) rfl rfl (Cell.own 0 0 rfl rfl rfl) ?_
    refine AtL.build (cs := [str [67, 111, 110, 110, 101, 99, 116, 105, 111, 110], str [99, 108, 111, 115, 101]]) tf_lay78 (.inl rfl) rfl rfl rfl ?_
    refine AtL.buildSlice (cs := [str [67, 111, 110, 110, 101, 99, 116, 105, 111, 110], str [99, 108, 111, 115, 101]]) Tryz.underlying45 tf_zero78 tf_sz78 rfl rfl (.inl rfl) rfl rfl rfl ?_
    intro b7
    refine AtL.own1 tyField (l := ([(([67, 111, 110, 110, 101, 99, 116, 105, 111, 110] : List UInt8), ([99, 108, 111, 115, 101] : List UInt8))] : List (List UInt8 × List UInt8))) rfl rfl (by first | decide | simp) ?_
    intro s8 o9
    refine AtL.append (l := [(([72, 111, 115, 116] : List UInt8), ([120] : List UInt8))]) (news := [(([67, 111, 110, 110, 101, 99, 116, 105, 111, 110] : List UInt8), ([99, 108, 111, 115, 101] : List UInt8))]) 2 tf_el45 rfl o5 (o9.rd (i := 0) rfl) (by first | omega | (simp only [List.length_append, List.length_cons, List.length_nil]; omega) | (simp; done) | (simp; omega)) (.inl rfl) rfl rfl rfl ?_
    intro A10 C11 s12 o13
    refine AtL.fieldAddrB tf_fo47_3 (.inl rfl) rfl rfl rfl ?_
    refine AtL.store (H' := s8 :: [(b6, .cells #[str [71, 69, 84], str t, .int .i64 1, .slice A10 (([(([72, 111, 115, 116] : List UInt8), ([120] : List UInt8))]) ++ ([(([67, 111, 110, 110, 101, 99, 116, 105, 111, 110] : List UInt8), ([99, 108, 111, 115, 101] : List UInt8))])).length C11] 47 (0, 0))] :: s12 :: [(b2, .cells #[str [], str [], .int .i64 0, .slice none 0 0] 47 (0, 0))] :: [(b1, .cells #[.bool post, .slice A body.length C, str t, .bool false] 63 (0, 0))] :: H) 1 0 tf_sz45 (.inl rfl) rfl rfl rfl rfl rfl rfl rfl rfl rfl ?_
    refine AtL.done ?_
    refine At.seq ?_
    refine At.seq ?_
    refine At.region ?_
    refine AtL.fieldAddrB tf_fo63_0 (.inl rfl) rfl rfl rfl ?_
    refine AtL.load tf_flat4 (.inl rfl) rfl rfl (Cell.own 4 0 rfl rfl rfl) ?_
    refine AtL.done ?_
    refine At.cond rfl ?_ ?_
    · intro hc2
      have hc2 : post = true := hc2
      obtain rfl : post = true := by simpa using hc2
      refine At.region ?_
      refine AtL.fieldAddrB tf_fo47_0 (.inl rfl) rfl rfl rfl ?_
      refine AtL.store (H' := s8 :: [(b6, .cells #[str [80, 79, 83, 84], str t, .int .i64 1, .slice A10 (([(([72, 111, 115, 116] : List UInt8), ([120] : List UInt8))]) ++ ([(([67, 111, 110, 110, 101, 99, 116, 105, 111, 110] : List UInt8), ([99, 108, 111, 115, 101] : List UInt8))])).length C11] 47 (0, 0))] :: s12 :: [(b2, .cells #[str [], str [], .int .i64 0, .slice none 0 0] 47 (0, 0))] :: [(b1, .cells #[.bool true, .slice A body.length C, str t, .bool false] 63 (0, 0))] :: H) 1 0 tf_sz9 (.inl rfl) rfl rfl rfl rfl rfl rfl rfl rfl rfl ?_
      refine AtL.done ?_
      refine At.seq ?_
      refine At.seq ?_
      refine At.region ?_
      refine AtL.fieldAddrB tf_fo63_0 (.inl rfl) rfl rfl rfl ?_
      refine AtL.load tf_flat4 (.inl rfl) rfl rfl (Cell.own 4 0 rfl rfl rfl) ?_
      refine AtL.move (.inl rfl) rfl rfl ?_
      refine AtL.skipped rfl rfl rfl rfl rfl rfl ?_
      refine AtL.skipped rfl rfl rfl rfl rfl rfl ?_
      refine AtL.skipped rfl rfl rfl rfl rfl rfl ?_
      refine AtL.skipped rfl rfl rfl rfl rfl rfl ?_
      refine AtL.pickT (.inl rfl) rfl rfl rfl ?_
      refine AtL.done ?_
      refine At.condT rfl ?_
      refine At.draw (es := [7, 8, 10]) (pv := [(0, .pointer (some ⟨b6, 3, none⟩)), (1, .slice A10 (([(([72, 111, 115, 116] : List UInt8), ([120] : List UInt8))]) ++ ([(([67, 111, 110, 110, 101, 99, 116, 105, 111, 110] : List UInt8), ([99, 108, 111, 115, 101] : List UInt8))])).length C11), (2, .pointer (some ⟨b1, 1, none⟩)), (3, .slice A body.length C), (4, .int .i64 (body.length : Int)), (5, str (decF body.length)), (6, .agg #[str [67, 111, 110, 116, 101, 110, 116, 45, 76, 101, 110, 103, 116, 104], str (decF body.length)])]) tf_mixed (by kernel_rfl) (by kernel_rfl) (by kernel_rfl) ?_
      refine ⟨⟨.inr ⟨_, rfl, rfl, .inl ⟨rfl, Do.fieldAddrB tf_fo47_3 rfl rfl⟩⟩, .inr ⟨_, rfl, rfl, .inl ⟨rfl, Do.load tf_flat45 rfl (Cell.own 1 0 rfl rfl rfl)⟩⟩, .inr ⟨_, rfl, rfl, .inl ⟨rfl, Do.fieldAddrB tf_fo63_1 rfl rfl⟩⟩, .inr ⟨_, rfl, rfl, .inl ⟨rfl, Do.load tf_flat22 rfl (Cell.own 4 0 rfl rfl rfl)⟩⟩, .inr ⟨_, rfl, rfl, .inl ⟨rfl, Do.lenL Tryz.underlying22 rfl⟩⟩, .inr ⟨_, rfl, rfl, .inl ⟨rfl, Do.call tf_body51 rfl (decimal14_ok body.length (by omega))⟩⟩, .inr ⟨_, rfl, rfl, .inl ⟨rfl, Do.build (cs := [str [67, 111, 110, 116, 101, 110, 116, 45, 76, 101, 110, 103, 116, 104], str (decF body.length)]) tf_lay78 rfl rfl⟩⟩, trivial⟩, rfl, rfl, by kernel_rfl, _, rfl, rfl, rfl, _, Do.own1 tyField (l := ([(([67, 111, 110, 116, 101, 110, 116, 45, 76, 101, 110, 103, 116, 104] : List UInt8), decF body.length)] : List (List UInt8 × List UInt8))) (Do.buildSlice (cs := [str [67, 111, 110, 116, 101, 110, 116, 45, 76, 101, 110, 103, 116, 104], str (decF body.length)]) Tryz.underlying45 tf_zero78 tf_sz78 rfl rfl rfl rfl) rfl rfl (by first | decide | simp), ?_⟩
      rintro _ _ ⟨b14, s15, o16, rfl, rfl⟩
      refine ⟨[], rfl, ?_⟩
      refine ⟨⟨.inr ⟨_, rfl, rfl, .inl ⟨rfl, Do.fieldAddrB tf_fo47_3 rfl rfl⟩⟩, .inr ⟨_, rfl, rfl, .inl ⟨rfl, Do.load tf_flat45 rfl (Cell.own 2 0 rfl rfl rfl)⟩⟩, .inl (by kernel_rfl), .inl (by kernel_rfl), .inl (by kernel_rfl), .inl (by kernel_rfl), .inl (by kernel_rfl), trivial⟩, rfl, rfl, by kernel_rfl, _, rfl, rfl, rfl, _, Do.append (l := ([(([72, 111, 115, 116] : List UInt8), ([120] : List UInt8))]) ++ ([(([67, 111, 110, 110, 101, 99, 116, 105, 111, 110] : List UInt8), ([99, 108, 111, 115, 101] : List UInt8))])) (news := [(([67, 111, 110, 116, 101, 110, 116, 45, 76, 101, 110, 103, 116, 104] : List UInt8), decF body.length)]) 3 tf_el45 rfl o13 (o16.rd (i := 0) rfl) (by first | omega | (simp only [List.length_append, List.length_cons, List.length_nil]; omega) | (simp; done) | (simp; omega)) rfl rfl, ?_⟩
      rintro _ _ ⟨A17, C18, s19, o20, rfl, rfl⟩
      refine ⟨[(9, .pointer (some ⟨b6, 3, none⟩))], rfl, ?_⟩
      refine ⟨⟨.inr ⟨_, rfl, rfl, .inl ⟨rfl, Do.fieldAddrB tf_fo47_3 rfl rfl⟩⟩, .inl (by kernel_rfl), .inl (by kernel_rfl), .inl (by kernel_rfl), .inl (by kernel_rfl), .inl (by kernel_rfl), .inl (by kernel_rfl), .inl (by kernel_rfl), trivial⟩, rfl, rfl, by kernel_rfl, _, rfl, rfl, rfl, _, Do.store (H' := s15 :: s8 :: [(b6, .cells #[str [80, 79, 83, 84], str t, .int .i64 1, .slice A17 ((([(([72, 111, 115, 116] : List UInt8), ([120] : List UInt8))]) ++ ([(([67, 111, 110, 110, 101, 99, 116, 105, 111, 110] : List UInt8), ([99, 108, 111, 115, 101] : List UInt8))])) ++ ([(([67, 111, 110, 116, 101, 110, 116, 45, 76, 101, 110, 103, 116, 104] : List UInt8), decF body.length)])).length C18] 47 (0, 0))] :: s19 :: [(b2, .cells #[str [], str [], .int .i64 0, .slice none 0 0] 47 (0, 0))] :: [(b1, .cells #[.bool true, .slice A body.length C, str t, .bool false] 63 (0, 0))] :: H) 2 0 tf_sz45 rfl rfl rfl rfl rfl rfl rfl rfl rfl, ?_⟩
      rintro _ _ ⟨rfl, rfl⟩
      refine ⟨[], rfl, ?_⟩
      refine ⟨⟨.inl (by kernel_rfl), .inl (by kernel_rfl), .inl (by kernel_rfl), .inl (by kernel_rfl), .inl (by kernel_rfl), .inl (by kernel_rfl), .inl (by kernel_rfl), .inl (by kernel_rfl), trivial⟩, by kernel_rfl, ?_⟩
      refine At.mono (E' := [(1, .pointer (some ⟨b1, 0, none⟩)), (3, .pointer (some ⟨b2, 0, none⟩)), (5, .pointer (some ⟨b6, 0, none⟩))]) ⟨rfl, rfl, rfl, trivial⟩ ?_
      refine At.seq ?_
      have hfs9 : ((([(([72, 111, 115, 116] : List UInt8), ([120] : List UInt8))]) ++ ([(([67, 111, 110, 110, 101, 99, 116, 105, 111, 110] : List UInt8), ([99, 108, 111, 115, 101] : List UInt8))])) ++ ([(([67, 111, 110, 116, 101, 110, 116, 45, 76, 101, 110, 103, 116, 104] : List UInt8), decF body.length)])) = askFs body.length true false := by simp only [askFs, HostN, ConnN, CloseV, CL1]; simp []
      have hsm9 := askFs_small body.length hbl true false
      rw [hfs9]
      have oq9 : Own tyField 78 A17 C18 (askFs body.length true false) s19 := by rw [← hfs9]; exact o20
      refine At.region ?_
      refine AtL.loadN (cs := [str [80, 79, 83, 84], str t, .int .i64 1, .slice A17 (askFs body.length true false).length C18]) tf_agg47 (.inl rfl) rfl rfl rfl (cellsOwn 2 0 0 rfl rfl rfl) ?_
      refine AtL.call tf_body52 (.inl rfl) rfl rfl (write_ok (m := POSTH) (t := t) (minor := 1) (fs := askFs body.length true false) (oq9.rd (i := 3) rfl) hsm9.1 (by have h1 : POSTH.length ≤ 4 := (by decide); omega)) ?_
      rintro _ _ ⟨⟨A28, C29, l30, s31, o32⟩, hx33, rfl, rfl⟩
      obtain rfl : writeL (askHd true body.length t false) = l30 := hx33.symm
      refine AtL.move (.inl rfl) rfl rfl ?_
      refine AtL.extract (.inl rfl) rfl rfl rfl ?_
      refine AtL.extract (.inl rfl) rfl rfl rfl ?_
      refine AtL.assign (.inl rfl) rfl rfl ?_
      refine AtL.assign (.inl rfl) rfl rfl ?_
      refine AtL.done ?_
      refine At.seq ?_
      refine At.draw (es := [3, 8]) (pv := [(0, .slice A28 (writeL (askHd true body.length t false)).length C29), (1, .pointer (some ⟨b1, 1, none⟩)), (2, .slice A body.length C), (4, .agg #[str [80, 79, 83, 84], str t, .int .i64 1, .slice A17 (askFs body.length true false).length C18]), (5, .int .i64 (writeE (askHd true body.length t false))), (6, .bool (decide ((writeE (askHd true body.length t false)) = 0)))]) tf_mixed (by kernel_rfl) (by kernel_rfl) (by kernel_rfl) ?_
      refine ⟨⟨.inr ⟨_, rfl, rfl, .inl ⟨rfl, Do.move rfl⟩⟩, .inr ⟨_, rfl, rfl, .inl ⟨rfl, Do.fieldAddrB tf_fo63_1 rfl rfl⟩⟩, .inr ⟨_, rfl, rfl, .inl ⟨rfl, Do.load tf_flat22 rfl (Cell.own 6 0 rfl rfl rfl)⟩⟩, .inr ⟨_, rfl, rfl, .inl ⟨rfl, Do.loadN (cs := [str [80, 79, 83, 84], str t, .int .i64 1, .slice A17 (askFs body.length true false).length C18]) tf_agg47 rfl rfl (cellsOwn 3 0 0 rfl rfl rfl)⟩⟩, .inr ⟨_, rfl, rfl, .inl ⟨rfl, Do.move rfl⟩⟩, .inr ⟨_, rfl, rfl, .inl ⟨rfl, Do.eqi rfl rfl⟩⟩, trivial⟩, rfl, rfl, by kernel_rfl, _, rfl, rfl, rfl, _, Do.append (l := writeL (askHd true body.length t false)) (news := body) 0 tf_el22 rfl o32 (Rd.skip 7 hb) (by first | omega | (simp only [List.length_append, List.length_cons, List.length_nil]; omega) | (simp; done) | (simp; omega)) rfl rfl, ?_⟩
      rintro _ _ ⟨A34, C35, s36, o37, rfl, rfl⟩
      refine ⟨[(7, .slice A34 ((writeL (askHd true body.length t false)) ++ body).length C35)], rfl, ?_⟩
      refine ⟨⟨.inr ⟨_, rfl, rfl, .inl ⟨rfl, Do.assign rfl⟩⟩, .inl (by kernel_rfl), .inl (by kernel_rfl), .inl (by kernel_rfl), .inr ⟨_, rfl, rfl, .inl ⟨rfl, Do.loadN (cs := [str [80, 79, 83, 84], str t, .int .i64 1, .slice A17 (askFs body.length true false).length C18]) tf_agg47 rfl rfl (cellsOwn 3 0 0 rfl rfl rfl)⟩⟩, .inr ⟨_, rfl, rfl, .inl ⟨rfl, Do.move rfl⟩⟩, .inr ⟨_, rfl, rfl, .inl ⟨rfl, Do.eqi rfl rfl⟩⟩, trivial⟩, rfl, rfl, by kernel_rfl, _, rfl, rfl, rfl, _, Do.store (H' := s36 :: s15 :: s8 :: [(b6, .cells #[str [80, 79, 83, 84], str t, .int .i64 1, .slice A17 (askFs body.length true false).length C18] 47 (0, 0))] :: s19 :: [(b2, .cells #[str [80, 79, 83, 84], str t, .int .i64 1, .slice A17 (askFs body.length true false).length C18] 47 (0, 0))] :: [(b1, .cells #[.bool true, .slice A body.length C, str t, .bool false] 63 (0, 0))] :: H) 5 0 tf_sz47 rfl rfl rfl rfl rfl rfl rfl rfl rfl, ?_⟩
      rintro _ _ ⟨rfl, rfl⟩
      refine ⟨[(9, .bool (decide ((writeE (askHd true body.length t false)) = 0)))], rfl, ?_⟩
      refine ⟨⟨.inr ⟨_, rfl, rfl, .inl ⟨rfl, Do.assign rfl⟩⟩, .inl (by kernel_rfl), .inl (by kernel_rfl), .inl (by kernel_rfl), .inl (by kernel_rfl), .inl (by kernel_rfl), .inr ⟨_, rfl, rfl, .inl ⟨rfl, Do.move rfl⟩⟩, .inr ⟨_, rfl, rfl, .inl ⟨rfl, Do.eqi rfl rfl⟩⟩, trivial⟩, by kernel_rfl, ?_⟩
      refine At.mono (E' := [(2, .slice A34 ((writeL (askHd true body.length t false)) ++ body).length C35), (3, .pointer (some ⟨b2, 0, none⟩)), (4, .bool (decide ((writeE (askHd true body.length t false)) = 0)))]) ⟨rfl, rfl, rfl, trivial⟩ ?_
      exact At.retMP (vs := [.slice A34 ((writeL (askHd true body.length t false)) ++ body).length C35, .agg #[str [80, 79, 83, 84], str t, .int .i64 1, .slice A17 (askFs body.length true false).length C18], .bool (decide ((writeE (askHd true body.length t false)) = 0))]) (H2 := s36 :: s19 :: H) [0, 4] 7 rfl rfl Tryz.func34 rfl ⟨rfl, ⟨_, rfl, LoadsTo.agg (cs := [str [80, 79, 83, 84], str t, .int .i64 1, .slice A17 (askFs body.length true false).length C18]) tf_agg47 rfl (cellsOwn 5 0 0 rfl rfl rfl)⟩, rfl, trivial⟩ (⟨⟨A34, C35, (writeL (askHd true body.length t false)) ++ body, s36, o37⟩, ⟨A17, C18, askFs body.length true false, s19, oq9⟩, rfl, rfl, rfl, rfl⟩)
    · intro hc2
      have hc2 : post = false := hc2
      obtain rfl : post = false := by simpa using hc2
      refine At.skip ?_
      refine At.seq ?_
      refine At.seq ?_
      refine At.region ?_
      refine AtL.fieldAddrB tf_fo63_0 (.inl rfl) rfl rfl rfl ?_
      refine AtL.load tf_flat4 (.inl rfl) rfl rfl (Cell.own 4 0 rfl rfl rfl) ?_
      refine AtL.move (.inl rfl) rfl rfl ?_
      refine AtL.fieldAddrB tf_fo63_1 (.inr ⟨_, _, _, rfl, rfl, rfl, rfl⟩) rfl rfl rfl ?_
      refine AtL.load tf_flat22 (.inr ⟨_, _, _, rfl, rfl, rfl, rfl⟩) rfl rfl (Cell.own 4 0 rfl rfl rfl) ?_
      refine AtL.lenL Tryz.underlying22 (.inr ⟨_, _, _, rfl, rfl, rfl, rfl⟩) rfl rfl ?_
      refine AtL.gtr (.inr ⟨_, _, _, rfl, rfl, rfl, rfl⟩) rfl rfl rfl ?_
      refine AtL.pickF (.inl rfl) rfl rfl rfl ?_
      refine AtL.done ?_
      refine At.cond rfl ?_ ?_
      · intro hc3
        have hc3 : 0 < (body.length : Int) := of_decide_eq_true hc3
        refine At.draw (es := [7, 8, 10]) (pv := [(0, .pointer (some ⟨b6, 3, none⟩)), (1, .slice A10 (([(([72, 111, 115, 116] : List UInt8), ([120] : List UInt8))]) ++ ([(([67, 111, 110, 110, 101, 99, 116, 105, 111, 110] : List UInt8), ([99, 108, 111, 115, 101] : List UInt8))])).length C11), (2, .pointer (some ⟨b1, 1, none⟩)), (3, .slice A body.length C), (4, .int .i64 (body.length : Int)), (5, str (decF body.length)), (6, .agg #[str [67, 111, 110, 116, 101, 110, 116, 45, 76, 101, 110, 103, 116, 104], str (decF body.length)])]) tf_mixed (by kernel_rfl) (by kernel_rfl) (by kernel_rfl) ?_
        refine ⟨⟨.inr ⟨_, rfl, rfl, .inl ⟨rfl, Do.fieldAddrB tf_fo47_3 rfl rfl⟩⟩, .inr ⟨_, rfl, rfl, .inl ⟨rfl, Do.load tf_flat45 rfl (Cell.own 1 0 rfl rfl rfl)⟩⟩, .inr ⟨_, rfl, rfl, .inl ⟨rfl, Do.fieldAddrB tf_fo63_1 rfl rfl⟩⟩, .inr ⟨_, rfl, rfl, .inl ⟨rfl, Do.load tf_flat22 rfl (Cell.own 4 0 rfl rfl rfl)⟩⟩, .inr ⟨_, rfl, rfl, .inl ⟨rfl, Do.lenL Tryz.underlying22 rfl⟩⟩, .inr ⟨_, rfl, rfl, .inl ⟨rfl, Do.call tf_body51 rfl (decimal14_ok body.length (by omega))⟩⟩, .inr ⟨_, rfl, rfl, .inl ⟨rfl, Do.build (cs := [str [67, 111, 110, 116, 101, 110, 116, 45, 76, 101, 110, 103, 116, 104], str (decF body.length)]) tf_lay78 rfl rfl⟩⟩, trivial⟩, rfl, rfl, by kernel_rfl, _, rfl, rfl, rfl, _, Do.own1 tyField (l := ([(([67, 111, 110, 116, 101, 110, 116, 45, 76, 101, 110, 103, 116, 104] : List UInt8), decF body.length)] : List (List UInt8 × List UInt8))) (Do.buildSlice (cs := [str [67, 111, 110, 116, 101, 110, 116, 45, 76, 101, 110, 103, 116, 104], str (decF body.length)]) Tryz.underlying45 tf_zero78 tf_sz78 rfl rfl rfl rfl) rfl rfl (by first | decide | simp), ?_⟩
        rintro _ _ ⟨b42, s43, o44, rfl, rfl⟩
        refine ⟨[], rfl, ?_⟩
        refine ⟨⟨.inr ⟨_, rfl, rfl, .inl ⟨rfl, Do.fieldAddrB tf_fo47_3 rfl rfl⟩⟩, .inr ⟨_, rfl, rfl, .inl ⟨rfl, Do.load tf_flat45 rfl (Cell.own 2 0 rfl rfl rfl)⟩⟩, .inl (by kernel_rfl), .inl (by kernel_rfl), .inl (by kernel_rfl), .inl (by kernel_rfl), .inl (by kernel_rfl), trivial⟩, rfl, rfl, by kernel_rfl, _, rfl, rfl, rfl, _, Do.append (l := ([(([72, 111, 115, 116] : List UInt8), ([120] : List UInt8))]) ++ ([(([67, 111, 110, 110, 101, 99, 116, 105, 111, 110] : List UInt8), ([99, 108, 111, 115, 101] : List UInt8))])) (news := [(([67, 111, 110, 116, 101, 110, 116, 45, 76, 101, 110, 103, 116, 104] : List UInt8), decF body.length)]) 3 tf_el45 rfl o13 (o44.rd (i := 0) rfl) (by first | omega | (simp only [List.length_append, List.length_cons, List.length_nil]; omega) | (simp; done) | (simp; omega)) rfl rfl, ?_⟩
        rintro _ _ ⟨A45, C46, s47, o48, rfl, rfl⟩
        refine ⟨[(9, .pointer (some ⟨b6, 3, none⟩))], rfl, ?_⟩
        refine ⟨⟨.inr ⟨_, rfl, rfl, .inl ⟨rfl, Do.fieldAddrB tf_fo47_3 rfl rfl⟩⟩, .inl (by kernel_rfl), .inl (by kernel_rfl), .inl (by kernel_rfl), .inl (by kernel_rfl), .inl (by kernel_rfl), .inl (by kernel_rfl), .inl (by kernel_rfl), trivial⟩, rfl, rfl, by kernel_rfl, _, rfl, rfl, rfl, _, Do.store (H' := s43 :: s8 :: [(b6, .cells #[str [71, 69, 84], str t, .int .i64 1, .slice A45 ((([(([72, 111, 115, 116] : List UInt8), ([120] : List UInt8))]) ++ ([(([67, 111, 110, 110, 101, 99, 116, 105, 111, 110] : List UInt8), ([99, 108, 111, 115, 101] : List UInt8))])) ++ ([(([67, 111, 110, 116, 101, 110, 116, 45, 76, 101, 110, 103, 116, 104] : List UInt8), decF body.length)])).length C46] 47 (0, 0))] :: s47 :: [(b2, .cells #[str [], str [], .int .i64 0, .slice none 0 0] 47 (0, 0))] :: [(b1, .cells #[.bool false, .slice A body.length C, str t, .bool false] 63 (0, 0))] :: H) 2 0 tf_sz45 rfl rfl rfl rfl rfl rfl rfl rfl rfl, ?_⟩
        rintro _ _ ⟨rfl, rfl⟩
        refine ⟨[], rfl, ?_⟩
        refine ⟨⟨.inl (by kernel_rfl), .inl (by kernel_rfl), .inl (by kernel_rfl), .inl (by kernel_rfl), .inl (by kernel_rfl), .inl (by kernel_rfl), .inl (by kernel_rfl), .inl (by kernel_rfl), trivial⟩, by kernel_rfl, ?_⟩
        refine At.mono (E' := [(1, .pointer (some ⟨b1, 0, none⟩)), (3, .pointer (some ⟨b2, 0, none⟩)), (5, .pointer (some ⟨b6, 0, none⟩))]) ⟨rfl, rfl, rfl, trivial⟩ ?_
        refine At.seq ?_
        have hfs9 : ((([(([72, 111, 115, 116] : List UInt8), ([120] : List UInt8))]) ++ ([(([67, 111, 110, 110, 101, 99, 116, 105, 111, 110] : List UInt8), ([99, 108, 111, 115, 101] : List UInt8))])) ++ ([(([67, 111, 110, 116, 101, 110, 116, 45, 76, 101, 110, 103, 116, 104] : List UInt8), decF body.length)])) = askFs body.length false false := by simp only [askFs, HostN, ConnN, CloseV, CL1]; simp [show 0 < body.length by omega]
        have hsm9 := askFs_small body.length hbl false false
        rw [hfs9]
        have oq9 : Own tyField 78 A45 C46 (askFs body.length false false) s47 := by rw [← hfs9]; exact o48
        refine At.region ?_
        refine AtL.loadN (cs := [str [71, 69, 84], str t, .int .i64 1, .slice A45 (askFs body.length false false).length C46]) tf_agg47 (.inl rfl) rfl rfl rfl (cellsOwn 2 0 0 rfl rfl rfl) ?_
        refine AtL.call tf_body52 (.inl rfl) rfl rfl (write_ok (m := GETH) (t := t) (minor := 1) (fs := askFs body.length false false) (oq9.rd (i := 3) rfl) hsm9.1 (by have h1 : GETH.length ≤ 4 := (by decide); omega)) ?_
        rintro _ _ ⟨⟨A56, C57, l58, s59, o60⟩, hx61, rfl, rfl⟩
        obtain rfl : writeL (askHd false body.length t false) = l58 := hx61.symm
        refine AtL.move (.inl rfl) rfl rfl ?_
        refine AtL.extract (.inl rfl) rfl rfl rfl ?_
        refine AtL.extract (.inl rfl) rfl rfl rfl ?_
        refine AtL.assign (.inl rfl) rfl rfl ?_
        refine AtL.assign (.inl rfl) rfl rfl ?_
        refine AtL.done ?_
        refine At.seq ?_
        refine At.draw (es := [3, 8]) (pv := [(0, .slice A56 (writeL (askHd false body.length t false)).length C57), (1, .pointer (some ⟨b1, 1, none⟩)), (2, .slice A body.length C), (4, .agg #[str [71, 69, 84], str t, .int .i64 1, .slice A45 (askFs body.length false false).length C46]), (5, .int .i64 (writeE (askHd false body.length t false))), (6, .bool (decide ((writeE (askHd false body.length t false)) = 0)))]) tf_mixed (by kernel_rfl) (by kernel_rfl) (by kernel_rfl) ?_
        refine ⟨⟨.inr ⟨_, rfl, rfl, .inl ⟨rfl, Do.move rfl⟩⟩, .inr ⟨_, rfl, rfl, .inl ⟨rfl, Do.fieldAddrB tf_fo63_1 rfl rfl⟩⟩, .inr ⟨_, rfl, rfl, .inl ⟨rfl, Do.load tf_flat22 rfl (Cell.own 6 0 rfl rfl rfl)⟩⟩, .inr ⟨_, rfl, rfl, .inl ⟨rfl, Do.loadN (cs := [str [71, 69, 84], str t, .int .i64 1, .slice A45 (askFs body.length false false).length C46]) tf_agg47 rfl rfl (cellsOwn 3 0 0 rfl rfl rfl)⟩⟩, .inr ⟨_, rfl, rfl, .inl ⟨rfl, Do.move rfl⟩⟩, .inr ⟨_, rfl, rfl, .inl ⟨rfl, Do.eqi rfl rfl⟩⟩, trivial⟩, rfl, rfl, by kernel_rfl, _, rfl, rfl, rfl, _, Do.append (l := writeL (askHd false body.length t false)) (news := body) 0 tf_el22 rfl o60 (Rd.skip 7 hb) (by first | omega | (simp only [List.length_append, List.length_cons, List.length_nil]; omega) | (simp; done) | (simp; omega)) rfl rfl, ?_⟩
        rintro _ _ ⟨A62, C63, s64, o65, rfl, rfl⟩
        refine ⟨[(7, .slice A62 ((writeL (askHd false body.length t false)) ++ body).length C63)], rfl, ?_⟩
        refine ⟨⟨.inr ⟨_, rfl, rfl, .inl ⟨rfl, Do.assign rfl⟩⟩, .inl (by kernel_rfl), .inl (by kernel_rfl), .inl (by kernel_rfl), .inr ⟨_, rfl, rfl, .inl ⟨rfl, Do.loadN (cs := [str [71, 69, 84], str t, .int .i64 1, .slice A45 (askFs body.length false false).length C46]) tf_agg47 rfl rfl (cellsOwn 3 0 0 rfl rfl rfl)⟩⟩, .inr ⟨_, rfl, rfl, .inl ⟨rfl, Do.move rfl⟩⟩, .inr ⟨_, rfl, rfl, .inl ⟨rfl, Do.eqi rfl rfl⟩⟩, trivial⟩, rfl, rfl, by kernel_rfl, _, rfl, rfl, rfl, _, Do.store (H' := s64 :: s43 :: s8 :: [(b6, .cells #[str [71, 69, 84], str t, .int .i64 1, .slice A45 (askFs body.length false false).length C46] 47 (0, 0))] :: s47 :: [(b2, .cells #[str [71, 69, 84], str t, .int .i64 1, .slice A45 (askFs body.length false false).length C46] 47 (0, 0))] :: [(b1, .cells #[.bool false, .slice A body.length C, str t, .bool false] 63 (0, 0))] :: H) 5 0 tf_sz47 rfl rfl rfl rfl rfl rfl rfl rfl rfl, ?_⟩
        rintro _ _ ⟨rfl, rfl⟩
        refine ⟨[(9, .bool (decide ((writeE (askHd false body.length t false)) = 0)))], rfl, ?_⟩
        refine ⟨⟨.inr ⟨_, rfl, rfl, .inl ⟨rfl, Do.assign rfl⟩⟩, .inl (by kernel_rfl), .inl (by kernel_rfl), .inl (by kernel_rfl), .inl (by kernel_rfl), .inl (by kernel_rfl), .inr ⟨_, rfl, rfl, .inl ⟨rfl, Do.move rfl⟩⟩, .inr ⟨_, rfl, rfl, .inl ⟨rfl, Do.eqi rfl rfl⟩⟩, trivial⟩, by kernel_rfl, ?_⟩
        refine At.mono (E' := [(2, .slice A62 ((writeL (askHd false body.length t false)) ++ body).length C63), (3, .pointer (some ⟨b2, 0, none⟩)), (4, .bool (decide ((writeE (askHd false body.length t false)) = 0)))]) ⟨rfl, rfl, rfl, trivial⟩ ?_
        exact At.retMP (vs := [.slice A62 ((writeL (askHd false body.length t false)) ++ body).length C63, .agg #[str [71, 69, 84], str t, .int .i64 1, .slice A45 (askFs body.length false false).length C46], .bool (decide ((writeE (askHd false body.length t false)) = 0))]) (H2 := s64 :: s47 :: H) [0, 4] 7 rfl rfl Tryz.func34 rfl ⟨rfl, ⟨_, rfl, LoadsTo.agg (cs := [str [71, 69, 84], str t, .int .i64 1, .slice A45 (askFs body.length false false).length C46]) tf_agg47 rfl (cellsOwn 5 0 0 rfl rfl rfl)⟩, rfl, trivial⟩ (⟨⟨A62, C63, (writeL (askHd false body.length t false)) ++ body, s64, o65⟩, ⟨A45, C46, askFs body.length false false, s47, oq9⟩, rfl, rfl, rfl, rfl⟩)
      · intro hc3
        have hc3 : ¬ (0 < (body.length : Int)) := of_decide_eq_false hc3
        refine At.skip ?_
        refine At.seq ?_
        have hfs9 : (([(([72, 111, 115, 116] : List UInt8), ([120] : List UInt8))]) ++ ([(([67, 111, 110, 110, 101, 99, 116, 105, 111, 110] : List UInt8), ([99, 108, 111, 115, 101] : List UInt8))])) = askFs body.length false false := by simp only [askFs, HostN, ConnN, CloseV, CL1]; simp [show ¬ 0 < body.length by omega]
        have hsm9 := askFs_small body.length hbl false false
        rw [hfs9]
        have oq9 : Own tyField 78 A10 C11 (askFs body.length false false) s12 := by rw [← hfs9]; exact o13
        refine At.region ?_
        refine AtL.loadN (cs := [str [71, 69, 84], str t, .int .i64 1, .slice A10 (askFs body.length false false).length C11]) tf_agg47 (.inl rfl) rfl rfl rfl (cellsOwn 1 0 0 rfl rfl rfl) ?_
        refine AtL.call tf_body52 (.inl rfl) rfl rfl (write_ok (m := GETH) (t := t) (minor := 1) (fs := askFs body.length false false) (oq9.rd (i := 2) rfl) hsm9.1 (by have h1 : GETH.length ≤ 4 := (by decide); omega)) ?_
        rintro _ _ ⟨⟨A70, C71, l72, s73, o74⟩, hx75, rfl, rfl⟩
        obtain rfl : writeL (askHd false body.length t false) = l72 := hx75.symm
        refine AtL.move (.inl rfl) rfl rfl ?_
        refine AtL.extract (.inl rfl) rfl rfl rfl ?_
        refine AtL.extract (.inl rfl) rfl rfl rfl ?_
        refine AtL.assign (.inl rfl) rfl rfl ?_
        refine AtL.assign (.inl rfl) rfl rfl ?_
        refine AtL.done ?_
        refine At.seq ?_
        refine At.draw (es := [3, 8]) (pv := [(0, .slice A70 (writeL (askHd false body.length t false)).length C71), (1, .pointer (some ⟨b1, 1, none⟩)), (2, .slice A body.length C), (4, .agg #[str [71, 69, 84], str t, .int .i64 1, .slice A10 (askFs body.length false false).length C11]), (5, .int .i64 (writeE (askHd false body.length t false))), (6, .bool (decide ((writeE (askHd false body.length t false)) = 0)))]) tf_mixed (by kernel_rfl) (by kernel_rfl) (by kernel_rfl) ?_
        refine ⟨⟨.inr ⟨_, rfl, rfl, .inl ⟨rfl, Do.move rfl⟩⟩, .inr ⟨_, rfl, rfl, .inl ⟨rfl, Do.fieldAddrB tf_fo63_1 rfl rfl⟩⟩, .inr ⟨_, rfl, rfl, .inl ⟨rfl, Do.load tf_flat22 rfl (Cell.own 5 0 rfl rfl rfl)⟩⟩, .inr ⟨_, rfl, rfl, .inl ⟨rfl, Do.loadN (cs := [str [71, 69, 84], str t, .int .i64 1, .slice A10 (askFs body.length false false).length C11]) tf_agg47 rfl rfl (cellsOwn 2 0 0 rfl rfl rfl)⟩⟩, .inr ⟨_, rfl, rfl, .inl ⟨rfl, Do.move rfl⟩⟩, .inr ⟨_, rfl, rfl, .inl ⟨rfl, Do.eqi rfl rfl⟩⟩, trivial⟩, rfl, rfl, by kernel_rfl, _, rfl, rfl, rfl, _, Do.append (l := writeL (askHd false body.length t false)) (news := body) 0 tf_el22 rfl o74 (Rd.skip 6 hb) (by first | omega | (simp only [List.length_append, List.length_cons, List.length_nil]; omega) | (simp; done) | (simp; omega)) rfl rfl, ?_⟩
        rintro _ _ ⟨A76, C77, s78, o79, rfl, rfl⟩
        refine ⟨[(7, .slice A76 ((writeL (askHd false body.length t false)) ++ body).length C77)], rfl, ?_⟩
        refine ⟨⟨.inr ⟨_, rfl, rfl, .inl ⟨rfl, Do.assign rfl⟩⟩, .inl (by kernel_rfl), .inl (by kernel_rfl), .inl (by kernel_rfl), .inr ⟨_, rfl, rfl, .inl ⟨rfl, Do.loadN (cs := [str [71, 69, 84], str t, .int .i64 1, .slice A10 (askFs body.length false false).length C11]) tf_agg47 rfl rfl (cellsOwn 2 0 0 rfl rfl rfl)⟩⟩, .inr ⟨_, rfl, rfl, .inl ⟨rfl, Do.move rfl⟩⟩, .inr ⟨_, rfl, rfl, .inl ⟨rfl, Do.eqi rfl rfl⟩⟩, trivial⟩, rfl, rfl, by kernel_rfl, _, rfl, rfl, rfl, _, Do.store (H' := s78 :: s8 :: [(b6, .cells #[str [71, 69, 84], str t, .int .i64 1, .slice A10 (askFs body.length false false).length C11] 47 (0, 0))] :: s12 :: [(b2, .cells #[str [71, 69, 84], str t, .int .i64 1, .slice A10 (askFs body.length false false).length C11] 47 (0, 0))] :: [(b1, .cells #[.bool false, .slice A body.length C, str t, .bool false] 63 (0, 0))] :: H) 4 0 tf_sz47 rfl rfl rfl rfl rfl rfl rfl rfl rfl, ?_⟩
        rintro _ _ ⟨rfl, rfl⟩
        refine ⟨[(9, .bool (decide ((writeE (askHd false body.length t false)) = 0)))], rfl, ?_⟩
        refine ⟨⟨.inr ⟨_, rfl, rfl, .inl ⟨rfl, Do.assign rfl⟩⟩, .inl (by kernel_rfl), .inl (by kernel_rfl), .inl (by kernel_rfl), .inl (by kernel_rfl), .inl (by kernel_rfl), .inr ⟨_, rfl, rfl, .inl ⟨rfl, Do.move rfl⟩⟩, .inr ⟨_, rfl, rfl, .inl ⟨rfl, Do.eqi rfl rfl⟩⟩, trivial⟩, by kernel_rfl, ?_⟩
        refine At.mono (E' := [(2, .slice A76 ((writeL (askHd false body.length t false)) ++ body).length C77), (3, .pointer (some ⟨b2, 0, none⟩)), (4, .bool (decide ((writeE (askHd false body.length t false)) = 0)))]) ⟨rfl, rfl, rfl, trivial⟩ ?_
        exact At.retMP (vs := [.slice A76 ((writeL (askHd false body.length t false)) ++ body).length C77, .agg #[str [71, 69, 84], str t, .int .i64 1, .slice A10 (askFs body.length false false).length C11], .bool (decide ((writeE (askHd false body.length t false)) = 0))]) (H2 := s78 :: s12 :: H) [0, 3] 6 rfl rfl Tryz.func34 rfl ⟨rfl, ⟨_, rfl, LoadsTo.agg (cs := [str [71, 69, 84], str t, .int .i64 1, .slice A10 (askFs body.length false false).length C11]) tf_agg47 rfl (cellsOwn 4 0 0 rfl rfl rfl)⟩, rfl, trivial⟩ (⟨⟨A76, C77, (writeL (askHd false body.length t false)) ++ body, s78, o79⟩, ⟨A10, C11, askFs body.length false false, s12, oq9⟩, rfl, rfl, rfl, rfl⟩)
  · intro hc1
    have hc1 : keep = true := bnot_false hc1
    obtain rfl : keep = true := by simpa using hc1
    refine At.skip ?_
    refine At.seq ?_
    refine At.seq ?_
    refine At.region ?_
    refine AtL.fieldAddrB tf_fo63_0 (.inl rfl) rfl rfl rfl ?_
    refine AtL.load tf_flat4 (.inl rfl) rfl rfl (Cell.own 3 0 rfl rfl rfl) ?_
    refine AtL.done ?_
    refine At.cond rfl ?_ ?_
    · intro hc2
      have hc2 : post = true := hc2
      obtain rfl : post = true := by simpa using hc2
      refine At.region ?_
      refine AtL.fieldAddrB tf_fo47_0 (.inl rfl) rfl rfl rfl ?_
      refine AtL.store (H' := [(b6, .cells #[str [80, 79, 83, 84], str t, .int .i64 1, .slice (some ⟨b3, 0, none⟩) ([(([72, 111, 115, 116] : List UInt8), ([120] : List UInt8))]).length 1] 47 (0, 0))] :: s4 :: [(b2, .cells #[str [], str [], .int .i64 0, .slice none 0 0] 47 (0, 0))] :: [(b1, .cells #[.bool true, .slice A body.length C, str t, .bool true] 63 (0, 0))] :: H) 0 0 tf_sz9 (.inl rfl) rfl rfl rfl rfl rfl rfl rfl rfl rfl ?_
      refine AtL.done ?_
      refine At.seq ?_
      refine At.seq ?_
      refine At.region ?_
      refine AtL.fieldAddrB tf_fo63_0 (.inl rfl) rfl rfl rfl ?_
      refine AtL.load tf_flat4 (.inl rfl) rfl rfl (Cell.own 3 0 rfl rfl rfl) ?_
      refine AtL.move (.inl rfl) rfl rfl ?_
      refine AtL.skipped rfl rfl rfl rfl rfl rfl ?_
      refine AtL.skipped rfl rfl rfl rfl rfl rfl ?_
      refine AtL.skipped rfl rfl rfl rfl rfl rfl ?_
      refine AtL.skipped rfl rfl rfl rfl rfl rfl ?_
      refine AtL.pickT (.inl rfl) rfl rfl rfl ?_
      refine AtL.done ?_
      refine At.condT rfl ?_
      refine At.draw (es := [7, 8, 10]) (pv := [(0, .pointer (some ⟨b6, 3, none⟩)), (1, .slice (some ⟨b3, 0, none⟩) ([(([72, 111, 115, 116] : List UInt8), ([120] : List UInt8))]).length 1), (2, .pointer (some ⟨b1, 1, none⟩)), (3, .slice A body.length C), (4, .int .i64 (body.length : Int)), (5, str (decF body.length)), (6, .agg #[str [67, 111, 110, 116, 101, 110, 116, 45, 76, 101, 110, 103, 116, 104], str (decF body.length)])]) tf_mixed (by kernel_rfl) (by kernel_rfl) (by kernel_rfl) ?_
      refine ⟨⟨.inr ⟨_, rfl, rfl, .inl ⟨rfl, Do.fieldAddrB tf_fo47_3 rfl rfl⟩⟩, .inr ⟨_, rfl, rfl, .inl ⟨rfl, Do.load tf_flat45 rfl (Cell.own 0 0 rfl rfl rfl)⟩⟩, .inr ⟨_, rfl, rfl, .inl ⟨rfl, Do.fieldAddrB tf_fo63_1 rfl rfl⟩⟩, .inr ⟨_, rfl, rfl, .inl ⟨rfl, Do.load tf_flat22 rfl (Cell.own 3 0 rfl rfl rfl)⟩⟩, .inr ⟨_, rfl, rfl, .inl ⟨rfl, Do.lenL Tryz.underlying22 rfl⟩⟩, .inr ⟨_, rfl, rfl, .inl ⟨rfl, Do.call tf_body51 rfl (decimal14_ok body.length (by omega))⟩⟩, .inr ⟨_, rfl, rfl, .inl ⟨rfl, Do.build (cs := [str [67, 111, 110, 116, 101, 110, 116, 45, 76, 101, 110, 103, 116, 104], str (decF body.length)]) tf_lay78 rfl rfl⟩⟩, trivial⟩, rfl, rfl, by kernel_rfl, _, rfl, rfl, rfl, _, Do.own1 tyField (l := ([(([67, 111, 110, 116, 101, 110, 116, 45, 76, 101, 110, 103, 116, 104] : List UInt8), decF body.length)] : List (List UInt8 × List UInt8))) (Do.buildSlice (cs := [str [67, 111, 110, 116, 101, 110, 116, 45, 76, 101, 110, 103, 116, 104], str (decF body.length)]) Tryz.underlying45 tf_zero78 tf_sz78 rfl rfl rfl rfl) rfl rfl (by first | decide | simp), ?_⟩
      rintro _ _ ⟨b84, s85, o86, rfl, rfl⟩
      refine ⟨[], rfl, ?_⟩
      refine ⟨⟨.inr ⟨_, rfl, rfl, .inl ⟨rfl, Do.fieldAddrB tf_fo47_3 rfl rfl⟩⟩, .inr ⟨_, rfl, rfl, .inl ⟨rfl, Do.load tf_flat45 rfl (Cell.own 1 0 rfl rfl rfl)⟩⟩, .inl (by kernel_rfl), .inl (by kernel_rfl), .inl (by kernel_rfl), .inl (by kernel_rfl), .inl (by kernel_rfl), trivial⟩, rfl, rfl, by kernel_rfl, _, rfl, rfl, rfl, _, Do.append (l := [(([72, 111, 115, 116] : List UInt8), ([120] : List UInt8))]) (news := [(([67, 111, 110, 116, 101, 110, 116, 45, 76, 101, 110, 103, 116, 104] : List UInt8), decF body.length)]) 2 tf_el45 rfl o5 (o86.rd (i := 0) rfl) (by first | omega | (simp only [List.length_append, List.length_cons, List.length_nil]; omega) | (simp; done) | (simp; omega)) rfl rfl, ?_⟩
      rintro _ _ ⟨A87, C88, s89, o90, rfl, rfl⟩
      refine ⟨[(9, .pointer (some ⟨b6, 3, none⟩))], rfl, ?_⟩
      refine ⟨⟨.inr ⟨_, rfl, rfl, .inl ⟨rfl, Do.fieldAddrB tf_fo47_3 rfl rfl⟩⟩, .inl (by kernel_rfl), .inl (by kernel_rfl), .inl (by kernel_rfl), .inl (by kernel_rfl), .inl (by kernel_rfl), .inl (by kernel_rfl), .inl (by kernel_rfl), trivial⟩, rfl, rfl, by kernel_rfl, _, rfl, rfl, rfl, _, Do.store (H' := s85 :: [(b6, .cells #[str [80, 79, 83, 84], str t, .int .i64 1, .slice A87 (([(([72, 111, 115, 116] : List UInt8), ([120] : List UInt8))]) ++ ([(([67, 111, 110, 116, 101, 110, 116, 45, 76, 101, 110, 103, 116, 104] : List UInt8), decF body.length)])).length C88] 47 (0, 0))] :: s89 :: [(b2, .cells #[str [], str [], .int .i64 0, .slice none 0 0] 47 (0, 0))] :: [(b1, .cells #[.bool true, .slice A body.length C, str t, .bool true] 63 (0, 0))] :: H) 1 0 tf_sz45 rfl rfl rfl rfl rfl rfl rfl rfl rfl, ?_⟩
      rintro _ _ ⟨rfl, rfl⟩
      refine ⟨[], rfl, ?_⟩
      refine ⟨⟨.inl (by kernel_rfl), .inl (by kernel_rfl), .inl (by kernel_rfl), .inl (by kernel_rfl), .inl (by kernel_rfl), .inl (by kernel_rfl), .inl (by kernel_rfl), .inl (by kernel_rfl), trivial⟩, by kernel_rfl, ?_⟩
      refine At.mono (E' := [(1, .pointer (some ⟨b1, 0, none⟩)), (3, .pointer (some ⟨b2, 0, none⟩)), (5, .pointer (some ⟨b6, 0, none⟩))]) ⟨rfl, rfl, rfl, trivial⟩ ?_
      refine At.seq ?_
      have hfs9 : (([(([72, 111, 115, 116] : List UInt8), ([120] : List UInt8))]) ++ ([(([67, 111, 110, 116, 101, 110, 116, 45, 76, 101, 110, 103, 116, 104] : List UInt8), decF body.length)])) = askFs body.length true true := by simp only [askFs, HostN, ConnN, CloseV, CL1]; simp []
      have hsm9 := askFs_small body.length hbl true true
      rw [hfs9]
      have oq9 : Own tyField 78 A87 C88 (askFs body.length true true) s89 := by rw [← hfs9]; exact o90
      refine At.region ?_
      refine AtL.loadN (cs := [str [80, 79, 83, 84], str t, .int .i64 1, .slice A87 (askFs body.length true true).length C88]) tf_agg47 (.inl rfl) rfl rfl rfl (cellsOwn 1 0 0 rfl rfl rfl) ?_
      refine AtL.call tf_body52 (.inl rfl) rfl rfl (write_ok (m := POSTH) (t := t) (minor := 1) (fs := askFs body.length true true) (oq9.rd (i := 2) rfl) hsm9.1 (by have h1 : POSTH.length ≤ 4 := (by decide); omega)) ?_
      rintro _ _ ⟨⟨A98, C99, l100, s101, o102⟩, hx103, rfl, rfl⟩
      obtain rfl : writeL (askHd true body.length t true) = l100 := hx103.symm
      refine AtL.move (.inl rfl) rfl rfl ?_
      refine AtL.extract (.inl rfl) rfl rfl rfl ?_
      refine AtL.extract (.inl rfl) rfl rfl rfl ?_
      refine AtL.assign (.inl rfl) rfl rfl ?_
      refine AtL.assign (.inl rfl) rfl rfl ?_
      refine AtL.done ?_
      refine At.seq ?_
      refine At.draw (es := [3, 8]) (pv := [(0, .slice A98 (writeL (askHd true body.length t true)).length C99), (1, .pointer (some ⟨b1, 1, none⟩)), (2, .slice A body.length C), (4, .agg #[str [80, 79, 83, 84], str t, .int .i64 1, .slice A87 (askFs body.length true true).length C88]), (5, .int .i64 (writeE (askHd true body.length t true))), (6, .bool (decide ((writeE (askHd true body.length t true)) = 0)))]) tf_mixed (by kernel_rfl) (by kernel_rfl) (by kernel_rfl) ?_
      refine ⟨⟨.inr ⟨_, rfl, rfl, .inl ⟨rfl, Do.move rfl⟩⟩, .inr ⟨_, rfl, rfl, .inl ⟨rfl, Do.fieldAddrB tf_fo63_1 rfl rfl⟩⟩, .inr ⟨_, rfl, rfl, .inl ⟨rfl, Do.load tf_flat22 rfl (Cell.own 5 0 rfl rfl rfl)⟩⟩, .inr ⟨_, rfl, rfl, .inl ⟨rfl, Do.loadN (cs := [str [80, 79, 83, 84], str t, .int .i64 1, .slice A87 (askFs body.length true true).length C88]) tf_agg47 rfl rfl (cellsOwn 2 0 0 rfl rfl rfl)⟩⟩, .inr ⟨_, rfl, rfl, .inl ⟨rfl, Do.move rfl⟩⟩, .inr ⟨_, rfl, rfl, .inl ⟨rfl, Do.eqi rfl rfl⟩⟩, trivial⟩, rfl, rfl, by kernel_rfl, _, rfl, rfl, rfl, _, Do.append (l := writeL (askHd true body.length t true)) (news := body) 0 tf_el22 rfl o102 (Rd.skip 6 hb) (by first | omega | (simp only [List.length_append, List.length_cons, List.length_nil]; omega) | (simp; done) | (simp; omega)) rfl rfl, ?_⟩
      rintro _ _ ⟨A104, C105, s106, o107, rfl, rfl⟩
      refine ⟨[(7, .slice A104 ((writeL (askHd true body.length t true)) ++ body).length C105)], rfl, ?_⟩
      refine ⟨⟨.inr ⟨_, rfl, rfl, .inl ⟨rfl, Do.assign rfl⟩⟩, .inl (by kernel_rfl), .inl (by kernel_rfl), .inl (by kernel_rfl), .inr ⟨_, rfl, rfl, .inl ⟨rfl, Do.loadN (cs := [str [80, 79, 83, 84], str t, .int .i64 1, .slice A87 (askFs body.length true true).length C88]) tf_agg47 rfl rfl (cellsOwn 2 0 0 rfl rfl rfl)⟩⟩, .inr ⟨_, rfl, rfl, .inl ⟨rfl, Do.move rfl⟩⟩, .inr ⟨_, rfl, rfl, .inl ⟨rfl, Do.eqi rfl rfl⟩⟩, trivial⟩, rfl, rfl, by kernel_rfl, _, rfl, rfl, rfl, _, Do.store (H' := s106 :: s85 :: [(b6, .cells #[str [80, 79, 83, 84], str t, .int .i64 1, .slice A87 (askFs body.length true true).length C88] 47 (0, 0))] :: s89 :: [(b2, .cells #[str [80, 79, 83, 84], str t, .int .i64 1, .slice A87 (askFs body.length true true).length C88] 47 (0, 0))] :: [(b1, .cells #[.bool true, .slice A body.length C, str t, .bool true] 63 (0, 0))] :: H) 4 0 tf_sz47 rfl rfl rfl rfl rfl rfl rfl rfl rfl, ?_⟩
      rintro _ _ ⟨rfl, rfl⟩
      refine ⟨[(9, .bool (decide ((writeE (askHd true body.length t true)) = 0)))], rfl, ?_⟩
      refine ⟨⟨.inr ⟨_, rfl, rfl, .inl ⟨rfl, Do.assign rfl⟩⟩, .inl (by kernel_rfl), .inl (by kernel_rfl), .inl (by kernel_rfl), .inl (by kernel_rfl), .inl (by kernel_rfl), .inr ⟨_, rfl, rfl, .inl ⟨rfl, Do.move rfl⟩⟩, .inr ⟨_, rfl, rfl, .inl ⟨rfl, Do.eqi rfl rfl⟩⟩, trivial⟩, by kernel_rfl, ?_⟩
      refine At.mono (E' := [(2, .slice A104 ((writeL (askHd true body.length t true)) ++ body).length C105), (3, .pointer (some ⟨b2, 0, none⟩)), (4, .bool (decide ((writeE (askHd true body.length t true)) = 0)))]) ⟨rfl, rfl, rfl, trivial⟩ ?_
      exact At.retMP (vs := [.slice A104 ((writeL (askHd true body.length t true)) ++ body).length C105, .agg #[str [80, 79, 83, 84], str t, .int .i64 1, .slice A87 (askFs body.length true true).length C88], .bool (decide ((writeE (askHd true body.length t true)) = 0))]) (H2 := s106 :: s89 :: H) [0, 3] 6 rfl rfl Tryz.func34 rfl ⟨rfl, ⟨_, rfl, LoadsTo.agg (cs := [str [80, 79, 83, 84], str t, .int .i64 1, .slice A87 (askFs body.length true true).length C88]) tf_agg47 rfl (cellsOwn 4 0 0 rfl rfl rfl)⟩, rfl, trivial⟩ (⟨⟨A104, C105, (writeL (askHd true body.length t true)) ++ body, s106, o107⟩, ⟨A87, C88, askFs body.length true true, s89, oq9⟩, rfl, rfl, rfl, rfl⟩)
    · intro hc2
      have hc2 : post = false := hc2
      obtain rfl : post = false := by simpa using hc2
      refine At.skip ?_
      refine At.seq ?_
      refine At.seq ?_
      refine At.region ?_
      refine AtL.fieldAddrB tf_fo63_0 (.inl rfl) rfl rfl rfl ?_
      refine AtL.load tf_flat4 (.inl rfl) rfl rfl (Cell.own 3 0 rfl rfl rfl) ?_
      refine AtL.move (.inl rfl) rfl rfl ?_
      refine AtL.fieldAddrB tf_fo63_1 (.inr ⟨_, _, _, rfl, rfl, rfl, rfl⟩) rfl rfl rfl ?_
      refine AtL.load tf_flat22 (.inr ⟨_, _, _, rfl, rfl, rfl, rfl⟩) rfl rfl (Cell.own 3 0 rfl rfl rfl) ?_
      refine AtL.lenL Tryz.underlying22 (.inr ⟨_, _, _, rfl, rfl, rfl, rfl⟩) rfl rfl ?_
      refine AtL.gtr (.inr ⟨_, _, _, rfl, rfl, rfl, rfl⟩) rfl rfl rfl ?_
      refine AtL.pickF (.inl rfl) rfl rfl rfl ?_
      refine AtL.done ?_
      refine At.cond rfl ?_ ?_
      · intro hc3
        have hc3 : 0 < (body.length : Int) := of_decide_eq_true hc3
        refine At.draw (es := [7, 8, 10]) (pv := [(0, .pointer (some ⟨b6, 3, none⟩)), (1, .slice (some ⟨b3, 0, none⟩) ([(([72, 111, 115, 116] : List UInt8), ([120] : List UInt8))]).length 1), (2, .pointer (some ⟨b1, 1, none⟩)), (3, .slice A body.length C), (4, .int .i64 (body.length : Int)), (5, str (decF body.length)), (6, .agg #[str [67, 111, 110, 116, 101, 110, 116, 45, 76, 101, 110, 103, 116, 104], str (decF body.length)])]) tf_mixed (by kernel_rfl) (by kernel_rfl) (by kernel_rfl) ?_
        refine ⟨⟨.inr ⟨_, rfl, rfl, .inl ⟨rfl, Do.fieldAddrB tf_fo47_3 rfl rfl⟩⟩, .inr ⟨_, rfl, rfl, .inl ⟨rfl, Do.load tf_flat45 rfl (Cell.own 0 0 rfl rfl rfl)⟩⟩, .inr ⟨_, rfl, rfl, .inl ⟨rfl, Do.fieldAddrB tf_fo63_1 rfl rfl⟩⟩, .inr ⟨_, rfl, rfl, .inl ⟨rfl, Do.load tf_flat22 rfl (Cell.own 3 0 rfl rfl rfl)⟩⟩, .inr ⟨_, rfl, rfl, .inl ⟨rfl, Do.lenL Tryz.underlying22 rfl⟩⟩, .inr ⟨_, rfl, rfl, .inl ⟨rfl, Do.call tf_body51 rfl (decimal14_ok body.length (by omega))⟩⟩, .inr ⟨_, rfl, rfl, .inl ⟨rfl, Do.build (cs := [str [67, 111, 110, 116, 101, 110, 116, 45, 76, 101, 110, 103, 116, 104], str (decF body.length)]) tf_lay78 rfl rfl⟩⟩, trivial⟩, rfl, rfl, by kernel_rfl, _, rfl, rfl, rfl, _, Do.own1 tyField (l := ([(([67, 111, 110, 116, 101, 110, 116, 45, 76, 101, 110, 103, 116, 104] : List UInt8), decF body.length)] : List (List UInt8 × List UInt8))) (Do.buildSlice (cs := [str [67, 111, 110, 116, 101, 110, 116, 45, 76, 101, 110, 103, 116, 104], str (decF body.length)]) Tryz.underlying45 tf_zero78 tf_sz78 rfl rfl rfl rfl) rfl rfl (by first | decide | simp), ?_⟩
        rintro _ _ ⟨b112, s113, o114, rfl, rfl⟩
        refine ⟨[], rfl, ?_⟩
        refine ⟨⟨.inr ⟨_, rfl, rfl, .inl ⟨rfl, Do.fieldAddrB tf_fo47_3 rfl rfl⟩⟩, .inr ⟨_, rfl, rfl, .inl ⟨rfl, Do.load tf_flat45 rfl (Cell.own 1 0 rfl rfl rfl)⟩⟩, .inl (by kernel_rfl), .inl (by kernel_rfl), .inl (by kernel_rfl), .inl (by kernel_rfl), .inl (by kernel_rfl), trivial⟩, rfl, rfl, by kernel_rfl, _, rfl, rfl, rfl, _, Do.append (l := [(([72, 111, 115, 116] : List UInt8), ([120] : List UInt8))]) (news := [(([67, 111, 110, 116, 101, 110, 116, 45, 76, 101, 110, 103, 116, 104] : List UInt8), decF body.length)]) 2 tf_el45 rfl o5 (o114.rd (i := 0) rfl) (by first | omega | (simp only [List.length_append, List.length_cons, List.length_nil]; omega) | (simp; done) | (simp; omega)) rfl rfl, ?_⟩
        rintro _ _ ⟨A115, C116, s117, o118, rfl, rfl⟩
        refine ⟨[(9, .pointer (some ⟨b6, 3, none⟩))], rfl, ?_⟩
        refine ⟨⟨.inr ⟨_, rfl, rfl, .inl ⟨rfl, Do.fieldAddrB tf_fo47_3 rfl rfl⟩⟩, .inl (by kernel_rfl), .inl (by kernel_rfl), .inl (by kernel_rfl), .inl (by kernel_rfl), .inl (by kernel_rfl), .inl (by kernel_rfl), .inl (by kernel_rfl), trivial⟩, rfl, rfl, by kernel_rfl, _, rfl, rfl, rfl, _, Do.store (H' := s113 :: [(b6, .cells #[str [71, 69, 84], str t, .int .i64 1, .slice A115 (([(([72, 111, 115, 116] : List UInt8), ([120] : List UInt8))]) ++ ([(([67, 111, 110, 116, 101, 110, 116, 45, 76, 101, 110, 103, 116, 104] : List UInt8), decF body.length)])).length C116] 47 (0, 0))] :: s117 :: [(b2, .cells #[str [], str [], .int .i64 0, .slice none 0 0] 47 (0, 0))] :: [(b1, .cells #[.bool false, .slice A body.length C, str t, .bool true] 63 (0, 0))] :: H) 1 0 tf_sz45 rfl rfl rfl rfl rfl rfl rfl rfl rfl, ?_⟩
        rintro _ _ ⟨rfl, rfl⟩
        refine ⟨[], rfl, ?_⟩
        refine ⟨⟨.inl (by kernel_rfl), .inl (by kernel_rfl), .inl (by kernel_rfl), .inl (by kernel_rfl), .inl (by kernel_rfl), .inl (by kernel_rfl), .inl (by kernel_rfl), .inl (by kernel_rfl), trivial⟩, by kernel_rfl, ?_⟩
        refine At.mono (E' := [(1, .pointer (some ⟨b1, 0, none⟩)), (3, .pointer (some ⟨b2, 0, none⟩)), (5, .pointer (some ⟨b6, 0, none⟩))]) ⟨rfl, rfl, rfl, trivial⟩ ?_
        refine At.seq ?_
        have hfs9 : (([(([72, 111, 115, 116] : List UInt8), ([120] : List UInt8))]) ++ ([(([67, 111, 110, 116, 101, 110, 116, 45, 76, 101, 110, 103, 116, 104] : List UInt8), decF body.length)])) = askFs body.length false true := by simp only [askFs, HostN, ConnN, CloseV, CL1]; simp [show 0 < body.length by omega]
        have hsm9 := askFs_small body.length hbl false true
        rw [hfs9]
        have oq9 : Own tyField 78 A115 C116 (askFs body.length false true) s117 := by rw [← hfs9]; exact o118
        refine At.region ?_
        refine AtL.loadN (cs := [str [71, 69, 84], str t, .int .i64 1, .slice A115 (askFs body.length false true).length C116]) tf_agg47 (.inl rfl) rfl rfl rfl (cellsOwn 1 0 0 rfl rfl rfl) ?_
        refine AtL.call tf_body52 (.inl rfl) rfl rfl (write_ok (m := GETH) (t := t) (minor := 1) (fs := askFs body.length false true) (oq9.rd (i := 2) rfl) hsm9.1 (by have h1 : GETH.length ≤ 4 := (by decide); omega)) ?_
        rintro _ _ ⟨⟨A126, C127, l128, s129, o130⟩, hx131, rfl, rfl⟩
        obtain rfl : writeL (askHd false body.length t true) = l128 := hx131.symm
        refine AtL.move (.inl rfl) rfl rfl ?_
        refine AtL.extract (.inl rfl) rfl rfl rfl ?_
        refine AtL.extract (.inl rfl) rfl rfl rfl ?_
        refine AtL.assign (.inl rfl) rfl rfl ?_
        refine AtL.assign (.inl rfl) rfl rfl ?_
        refine AtL.done ?_
        refine At.seq ?_
        refine At.draw (es := [3, 8]) (pv := [(0, .slice A126 (writeL (askHd false body.length t true)).length C127), (1, .pointer (some ⟨b1, 1, none⟩)), (2, .slice A body.length C), (4, .agg #[str [71, 69, 84], str t, .int .i64 1, .slice A115 (askFs body.length false true).length C116]), (5, .int .i64 (writeE (askHd false body.length t true))), (6, .bool (decide ((writeE (askHd false body.length t true)) = 0)))]) tf_mixed (by kernel_rfl) (by kernel_rfl) (by kernel_rfl) ?_
        refine ⟨⟨.inr ⟨_, rfl, rfl, .inl ⟨rfl, Do.move rfl⟩⟩, .inr ⟨_, rfl, rfl, .inl ⟨rfl, Do.fieldAddrB tf_fo63_1 rfl rfl⟩⟩, .inr ⟨_, rfl, rfl, .inl ⟨rfl, Do.load tf_flat22 rfl (Cell.own 5 0 rfl rfl rfl)⟩⟩, .inr ⟨_, rfl, rfl, .inl ⟨rfl, Do.loadN (cs := [str [71, 69, 84], str t, .int .i64 1, .slice A115 (askFs body.length false true).length C116]) tf_agg47 rfl rfl (cellsOwn 2 0 0 rfl rfl rfl)⟩⟩, .inr ⟨_, rfl, rfl, .inl ⟨rfl, Do.move rfl⟩⟩, .inr ⟨_, rfl, rfl, .inl ⟨rfl, Do.eqi rfl rfl⟩⟩, trivial⟩, rfl, rfl, by kernel_rfl, _, rfl, rfl, rfl, _, Do.append (l := writeL (askHd false body.length t true)) (news := body) 0 tf_el22 rfl o130 (Rd.skip 6 hb) (by first | omega | (simp only [List.length_append, List.length_cons, List.length_nil]; omega) | (simp; done) | (simp; omega)) rfl rfl, ?_⟩
        rintro _ _ ⟨A132, C133, s134, o135, rfl, rfl⟩
        refine ⟨[(7, .slice A132 ((writeL (askHd false body.length t true)) ++ body).length C133)], rfl, ?_⟩
        refine ⟨⟨.inr ⟨_, rfl, rfl, .inl ⟨rfl, Do.assign rfl⟩⟩, .inl (by kernel_rfl), .inl (by kernel_rfl), .inl (by kernel_rfl), .inr ⟨_, rfl, rfl, .inl ⟨rfl, Do.loadN (cs := [str [71, 69, 84], str t, .int .i64 1, .slice A115 (askFs body.length false true).length C116]) tf_agg47 rfl rfl (cellsOwn 2 0 0 rfl rfl rfl)⟩⟩, .inr ⟨_, rfl, rfl, .inl ⟨rfl, Do.move rfl⟩⟩, .inr ⟨_, rfl, rfl, .inl ⟨rfl, Do.eqi rfl rfl⟩⟩, trivial⟩, rfl, rfl, by kernel_rfl, _, rfl, rfl, rfl, _, Do.store (H' := s134 :: s113 :: [(b6, .cells #[str [71, 69, 84], str t, .int .i64 1, .slice A115 (askFs body.length false true).length C116] 47 (0, 0))] :: s117 :: [(b2, .cells #[str [71, 69, 84], str t, .int .i64 1, .slice A115 (askFs body.length false true).length C116] 47 (0, 0))] :: [(b1, .cells #[.bool false, .slice A body.length C, str t, .bool true] 63 (0, 0))] :: H) 4 0 tf_sz47 rfl rfl rfl rfl rfl rfl rfl rfl rfl, ?_⟩
        rintro _ _ ⟨rfl, rfl⟩
        refine ⟨[(9, .bool (decide ((writeE (askHd false body.length t true)) = 0)))], rfl, ?_⟩
        refine ⟨⟨.inr ⟨_, rfl, rfl, .inl ⟨rfl, Do.assign rfl⟩⟩, .inl (by kernel_rfl), .inl (by kernel_rfl), .inl (by kernel_rfl), .inl (by kernel_rfl), .inl (by kernel_rfl), .inr ⟨_, rfl, rfl, .inl ⟨rfl, Do.move rfl⟩⟩, .inr ⟨_, rfl, rfl, .inl ⟨rfl, Do.eqi rfl rfl⟩⟩, trivial⟩, by kernel_rfl, ?_⟩
        refine At.mono (E' := [(2, .slice A132 ((writeL (askHd false body.length t true)) ++ body).length C133), (3, .pointer (some ⟨b2, 0, none⟩)), (4, .bool (decide ((writeE (askHd false body.length t true)) = 0)))]) ⟨rfl, rfl, rfl, trivial⟩ ?_
        exact At.retMP (vs := [.slice A132 ((writeL (askHd false body.length t true)) ++ body).length C133, .agg #[str [71, 69, 84], str t, .int .i64 1, .slice A115 (askFs body.length false true).length C116], .bool (decide ((writeE (askHd false body.length t true)) = 0))]) (H2 := s134 :: s117 :: H) [0, 3] 6 rfl rfl Tryz.func34 rfl ⟨rfl, ⟨_, rfl, LoadsTo.agg (cs := [str [71, 69, 84], str t, .int .i64 1, .slice A115 (askFs body.length false true).length C116]) tf_agg47 rfl (cellsOwn 4 0 0 rfl rfl rfl)⟩, rfl, trivial⟩ (⟨⟨A132, C133, (writeL (askHd false body.length t true)) ++ body, s134, o135⟩, ⟨A115, C116, askFs body.length false true, s117, oq9⟩, rfl, rfl, rfl, rfl⟩)
      · intro hc3
        have hc3 : ¬ (0 < (body.length : Int)) := of_decide_eq_false hc3
        refine At.skip ?_
        refine At.seq ?_
        have hfs9 : ([(([72, 111, 115, 116] : List UInt8), ([120] : List UInt8))]) = askFs body.length false true := by simp only [askFs, HostN, ConnN, CloseV, CL1]; simp [show ¬ 0 < body.length by omega]
        have hsm9 := askFs_small body.length hbl false true
        rw [hfs9]
        have oq9 : Own tyField 78 (some ⟨b3, 0, none⟩) 1 (askFs body.length false true) s4 := by rw [← hfs9]; exact o5
        refine At.region ?_
        refine AtL.loadN (cs := [str [71, 69, 84], str t, .int .i64 1, .slice (some ⟨b3, 0, none⟩) (askFs body.length false true).length 1]) tf_agg47 (.inl rfl) rfl rfl rfl (cellsOwn 0 0 0 rfl rfl rfl) ?_
        refine AtL.call tf_body52 (.inl rfl) rfl rfl (write_ok (m := GETH) (t := t) (minor := 1) (fs := askFs body.length false true) (oq9.rd (i := 1) rfl) hsm9.1 (by have h1 : GETH.length ≤ 4 := (by decide); omega)) ?_
        rintro _ _ ⟨⟨A140, C141, l142, s143, o144⟩, hx145, rfl, rfl⟩
        obtain rfl : writeL (askHd false body.length t true) = l142 := hx145.symm
        refine AtL.move (.inl rfl) rfl rfl ?_
        refine AtL.extract (.inl rfl) rfl rfl rfl ?_
        refine AtL.extract (.inl rfl) rfl rfl rfl ?_
        refine AtL.assign (.inl rfl) rfl rfl ?_
        refine AtL.assign (.inl rfl) rfl rfl ?_
        refine AtL.done ?_
        refine At.seq ?_
        refine At.draw (es := [3, 8]) (pv := [(0, .slice A140 (writeL (askHd false body.length t true)).length C141), (1, .pointer (some ⟨b1, 1, none⟩)), (2, .slice A body.length C), (4, .agg #[str [71, 69, 84], str t, .int .i64 1, .slice (some ⟨b3, 0, none⟩) (askFs body.length false true).length 1]), (5, .int .i64 (writeE (askHd false body.length t true))), (6, .bool (decide ((writeE (askHd false body.length t true)) = 0)))]) tf_mixed (by kernel_rfl) (by kernel_rfl) (by kernel_rfl) ?_
        refine ⟨⟨.inr ⟨_, rfl, rfl, .inl ⟨rfl, Do.move rfl⟩⟩, .inr ⟨_, rfl, rfl, .inl ⟨rfl, Do.fieldAddrB tf_fo63_1 rfl rfl⟩⟩, .inr ⟨_, rfl, rfl, .inl ⟨rfl, Do.load tf_flat22 rfl (Cell.own 4 0 rfl rfl rfl)⟩⟩, .inr ⟨_, rfl, rfl, .inl ⟨rfl, Do.loadN (cs := [str [71, 69, 84], str t, .int .i64 1, .slice (some ⟨b3, 0, none⟩) (askFs body.length false true).length 1]) tf_agg47 rfl rfl (cellsOwn 1 0 0 rfl rfl rfl)⟩⟩, .inr ⟨_, rfl, rfl, .inl ⟨rfl, Do.move rfl⟩⟩, .inr ⟨_, rfl, rfl, .inl ⟨rfl, Do.eqi rfl rfl⟩⟩, trivial⟩, rfl, rfl, by kernel_rfl, _, rfl, rfl, rfl, _, Do.append (l := writeL (askHd false body.length t true)) (news := body) 0 tf_el22 rfl o144 (Rd.skip 5 hb) (by first | omega | (simp only [List.length_append, List.length_cons, List.length_nil]; omega) | (simp; done) | (simp; omega)) rfl rfl, ?_⟩
        rintro _ _ ⟨A146, C147, s148, o149, rfl, rfl⟩
        refine ⟨[(7, .slice A146 ((writeL (askHd false body.length t true)) ++ body).length C147)], rfl, ?_⟩
        refine ⟨⟨.inr ⟨_, rfl, rfl, .inl ⟨rfl, Do.assign rfl⟩⟩, .inl (by kernel_rfl), .inl (by kernel_rfl), .inl (by kernel_rfl), .inr ⟨_, rfl, rfl, .inl ⟨rfl, Do.loadN (cs := [str [71, 69, 84], str t, .int .i64 1, .slice (some ⟨b3, 0, none⟩) (askFs body.length false true).length 1]) tf_agg47 rfl rfl (cellsOwn 1 0 0 rfl rfl rfl)⟩⟩, .inr ⟨_, rfl, rfl, .inl ⟨rfl, Do.move rfl⟩⟩, .inr ⟨_, rfl, rfl, .inl ⟨rfl, Do.eqi rfl rfl⟩⟩, trivial⟩, rfl, rfl, by kernel_rfl, _, rfl, rfl, rfl, _, Do.store (H' := s148 :: [(b6, .cells #[str [71, 69, 84], str t, .int .i64 1, .slice (some ⟨b3, 0, none⟩) (askFs body.length false true).length 1] 47 (0, 0))] :: s4 :: [(b2, .cells #[str [71, 69, 84], str t, .int .i64 1, .slice (some ⟨b3, 0, none⟩) (askFs body.length false true).length 1] 47 (0, 0))] :: [(b1, .cells #[.bool false, .slice A body.length C, str t, .bool true] 63 (0, 0))] :: H) 3 0 tf_sz47 rfl rfl rfl rfl rfl rfl rfl rfl rfl, ?_⟩
        rintro _ _ ⟨rfl, rfl⟩
        refine ⟨[(9, .bool (decide ((writeE (askHd false body.length t true)) = 0)))], rfl, ?_⟩
        refine ⟨⟨.inr ⟨_, rfl, rfl, .inl ⟨rfl, Do.assign rfl⟩⟩, .inl (by kernel_rfl), .inl (by kernel_rfl), .inl (by kernel_rfl), .inl (by kernel_rfl), .inl (by kernel_rfl), .inr ⟨_, rfl, rfl, .inl ⟨rfl, Do.move rfl⟩⟩, .inr ⟨_, rfl, rfl, .inl ⟨rfl, Do.eqi rfl rfl⟩⟩, trivial⟩, by kernel_rfl, ?_⟩
        refine At.mono (E' := [(2, .slice A146 ((writeL (askHd false body.length t true)) ++ body).length C147), (3, .pointer (some ⟨b2, 0, none⟩)), (4, .bool (decide ((writeE (askHd false body.length t true)) = 0)))]) ⟨rfl, rfl, rfl, trivial⟩ ?_
        exact At.retMP (vs := [.slice A146 ((writeL (askHd false body.length t true)) ++ body).length C147, .agg #[str [71, 69, 84], str t, .int .i64 1, .slice (some ⟨b3, 0, none⟩) (askFs body.length false true).length 1], .bool (decide ((writeE (askHd false body.length t true)) = 0))]) (H2 := s148 :: s4 :: H) [0, 2] 5 rfl rfl Tryz.func34 rfl ⟨rfl, ⟨_, rfl, LoadsTo.agg (cs := [str [71, 69, 84], str t, .int .i64 1, .slice (some ⟨b3, 0, none⟩) (askFs body.length false true).length 1]) tf_agg47 rfl (cellsOwn 3 0 0 rfl rfl rfl)⟩, rfl, trivial⟩ (⟨⟨A146, C147, (writeL (askHd false body.length t true)) ++ body, s148, o149⟩, ⟨(some ⟨b3, 0, none⟩), 1, askFs body.length false true, s4, oq9⟩, rfl, rfl, rfl, rfl⟩)
end Go.Proofs.YtlkdmbpbjhjkfaaGreatDoor
namespace Go.Proofs.YtlkdmbpbjhjkfaaGreatDoor
set_option linter.unusedVariables false
set_option linter.unusedSimpArgs false
set_option maxRecDepth 100000
theorem el_want {w0 : World} {base : Nat} {H : List Seg} {fss : List (Sl tyField 78)} {f : Sl tyField 78} {W : List (Int × List UInt8 × List UInt8 × Int × Vs (List UInt8 × List UInt8) × Vs UInt8 × Bool)} {i : (Int × List UInt8 × List UInt8 × Int × Vs (List UInt8 × List UInt8) × Vs UInt8 × Bool)} (h : ∀ x ∈ W, Rd tyField w0 base (segsOf fss :: H) x.2.2.2.2.1.A x.2.2.2.2.1.C x.2.2.2.2.1.l ∧ Rd tyB w0 base (segsOf fss :: H) x.2.2.2.2.2.1.A x.2.2.2.2.2.1.C x.2.2.2.2.2.1.l) (hf : i.2.2.2.2.1 = f.v) (hb : Rd tyB w0 base H i.2.2.2.2.2.1.A i.2.2.2.2.2.1.C i.2.2.2.2.2.1.l) :
    ∀ x ∈ W ++ [i], Rd tyField w0 base (segsOf (fss ++ [f]) :: H) x.2.2.2.2.1.A x.2.2.2.2.1.C x.2.2.2.2.1.l ∧ Rd tyB w0 base (segsOf (fss ++ [f]) :: H) x.2.2.2.2.2.1.A x.2.2.2.2.2.1.C x.2.2.2.2.2.1.l := by
  have hp : (segsOf (fss ++ [f]) :: H).flatten.Perm (f.s :: segsOf fss :: H).flatten := (flat_snoc f fss H).symm
  intro x hx
  rcases List.mem_append.1 hx with hx | hx
  · exact ⟨Rd.flat hp (Rd.up (h x hx).1 _), Rd.flat hp (Rd.up (h x hx).2 _)⟩
  · obtain rfl := List.mem_singleton.1 hx
    rw [hf]
    exact ⟨Rd.flat hp (f.own.rd (i := 0) rfl), Rd.flat hp (Rd.up (Rd.up hb _) _)⟩
set_option maxHeartbeats 1000000 in
theorem httpback_ok {w0 : World} {base : Nat} {H : List Seg} {A Ac : Option Addr} {C Cc : Nat} {l : List (Bool × Vs UInt8 × List UInt8 × Bool)} {ns : List Int} (h : Rd tyAsk w0 base H A C l) (he : ∀ x ∈ l, Rd tyB w0 base H x.2.1.A x.2.1.C x.2.1.l) (h2 : Rd tyI w0 base H Ac Cc ns) (T : Tabs w0 base) :
    SCalls Tryz.prog 9 [.slice A l.length C, .slice Ac ns.length Cc] w0 base (H) (fun v H' => v = .bool true ∧ H' = H) := by
  have hle0 := h.le
  have hcap0 := h.cap
  have hle2 := h2.le
  have hcap2 := h2.cap
  refine SCalls.of_walk (n := 112) Tryz.func9 rfl rfl rfl fun cs => ?_
  refine At.seq ?_
  refine At.region ?_
  refine AtL.assign (.inl rfl) rfl rfl ?_
  refine AtL.done ?_
  refine At.seq ?_
  refine At.region ?_
  refine AtL.call tf_body23 (.inl rfl) rfl rfl (awake14_ok T) ?_
  rintro _ _ ⟨rfl, hHq⟩
  obtain rfl := hHq.symm
  refine AtL.assign (.inl rfl) rfl rfl ?_
  refine AtL.done ?_
  refine At.seq ?_
  refine At.seq ?_
  refine At.region ?_
  refine AtL.move (.inl rfl) rfl rfl ?_
  refine AtL.lenL Tryz.underlying61 (.inl rfl) rfl rfl ?_
  refine AtL.gtr (.inl rfl) rfl rfl rfl ?_
  refine AtL.move (.inl rfl) rfl rfl ?_
  refine AtL.join 4 (E' := [(24, .bool (decide ((12 < (l.length : Int)) ∨ (60 < (ns.length : Int))))), (0, .slice A l.length C), (1, .slice Ac ns.length Cc), (5, .bool true)]) (H' := H) (fun J => ?_) ?_
  · refine AtL.split (t := 20) rfl ?_ ?_
    · intro hs20
      have hs20 : 12 < (l.length : Int) := of_decide_eq_true hs20
      refine AtL.skipped rfl rfl rfl rfl rfl rfl ?_
      refine AtL.skipped rfl rfl rfl rfl rfl rfl ?_
      refine AtL.skipped rfl rfl rfl rfl rfl rfl ?_
      refine AtL.pickT (.inl rfl) rfl rfl rfl ?_
      exact J _ (by exact ⟨(boolIs (by clear J; first | (simp [hs20]; done) | (simp_all; done) | grind)), rfl, rfl, rfl, trivial⟩)
    · intro hs20
      have hs20 : ¬ (12 < (l.length : Int)) := of_decide_eq_false hs20
      refine AtL.move (.inr ⟨_, _, _, rfl, rfl, rfl, rfl⟩) rfl rfl ?_
      refine AtL.lenL Tryz.underlying55 (.inr ⟨_, _, _, rfl, rfl, rfl, rfl⟩) rfl rfl ?_
      refine AtL.gtr (.inr ⟨_, _, _, rfl, rfl, rfl, rfl⟩) rfl rfl rfl ?_
      refine AtL.pickF (.inl rfl) rfl rfl rfl ?_
      exact J _ (by exact ⟨(boolIs (by clear J; first | (simp [hs20]; done) | (simp_all; done) | grind)), rfl, rfl, rfl, trivial⟩)
  · skip
    refine AtL.done ?_
    refine At.cond rfl ?_ ?_
    · intro hc1
      have hc1 : (12 < (l.length : Int)) ∨ (60 < (ns.length : Int)) := of_decide_eq_true hc1
      refine At.seq ?_
      refine At.region ?_
      refine AtL.move (.inl rfl) rfl rfl ?_
      refine AtL.assign (.inl rfl) rfl rfl ?_
      refine AtL.done ?_
      exact At.ret Tryz.func9 rfl rfl (⟨rfl, rfl⟩)
    · intro hc1
      have hc1 : ¬ ((12 < (l.length : Int)) ∨ (60 < (ns.length : Int))) := of_decide_eq_false hc1
      refine At.skip ?_
      refine At.seq ?_
      refine At.region ?_
      refine AtL.assign (.inl rfl) rfl rfl ?_
      refine AtL.done ?_
      refine At.seq ?_
      refine At.region ?_
      refine AtL.assign (.inl rfl) rfl rfl ?_
      refine AtL.done ?_
      refine At.seq ?_
      refine At.region ?_
      refine AtL.assign (.inl rfl) rfl rfl ?_
      refine AtL.done ?_
      refine At.seq ?_
      refine At.seq ?_
      refine At.region ?_
      refine AtL.assign (.inl rfl) rfl rfl ?_
      refine AtL.done ?_
      refine At.block ?_
      refine At.nil ?_
      refine At.nil ?_
      refine At.nil ?_
      refine At.loop5 (fun (i : Nat) (y : Sl tyB 5) (wv : Sl tyItem 49) (fss : List (Sl tyField 78)) (ov : Bool) => [(0, .slice A l.length C), (1, .slice Ac ns.length Cc), (5, .bool true), (6, .slice y.A y.l.length y.C), (7, .slice wv.A wv.l.length wv.C), (8, .bool ov), (9, .int .i64 (i : Int))]) (fun (i : Nat) (y : Sl tyB 5) (wv : Sl tyItem 49) (fss : List (Sl tyField 78)) (ov : Bool) => segsOf fss :: y.s :: wv.s :: H) (fun (i : Nat) (y : Sl tyB 5) (wv : Sl tyItem 49) (fss : List (Sl tyField 78)) (ov : Bool) => i ≤ l.length ∧ runF y.l = (wv.l.map plI, [], ov) ∧ (∀ x ∈ wv.l, Rd tyField w0 base (segsOf fss :: H) x.2.2.2.2.1.A x.2.2.2.2.1.C x.2.2.2.2.1.l ∧ Rd tyB w0 base (segsOf fss :: H) x.2.2.2.2.2.1.A x.2.2.2.2.2.1.C x.2.2.2.2.2.1.l) ∧ y.l.length ≤ 4700 * i ∧ wv.l.length ≤ i) (fun (i : Nat) (y : Sl tyB 5) (wv : Sl tyItem 49) (fss : List (Sl tyField 78)) (ov : Bool) => l.length - i) 0 Sl.nil Sl.nil [] false (⟨Nat.zero_le _, run_nil14, fun x hx => absurd hx (by simp [Sl.nil]), Nat.zero_le _, Nat.zero_le _⟩) ⟨rfl, rfl, rfl, rfl, rfl, rfl, rfl, trivial⟩ rfl ?_
      rintro i y wv fss ov ⟨hi, hrun, hel, hyl, hwv⟩ ihL1
      have hcapy := Own.cap_le y.own
      have hcapw := Own.cap_le wv.own
      refine At.seq ?_
      refine At.seq ?_
      refine At.region ?_
      refine AtL.move (.inl rfl) rfl rfl ?_
      refine AtL.move (.inl rfl) rfl rfl ?_
      refine AtL.lenL Tryz.underlying61 (.inl rfl) rfl rfl ?_
      refine AtL.lss (.inl rfl) rfl rfl rfl ?_
      refine AtL.done ?_
      refine At.cond rfl ?_ ?_
      · intro hc2
        have hc2 : (i : Int) < (l.length : Int) := of_decide_eq_true hc2
        refine At.skip ?_
        refine At.seq ?_
        refine At.block ?_
        refine At.seq ?_
        refine At.seq ?_
        refine At.region ?_
        refine AtL.move (.inl rfl) rfl rfl ?_
        refine AtL.move (.inl rfl) rfl rfl ?_
        refine AtL.indexL i (Rd.skip 3 h) Tryz.underlying61 tf_sz63 (.inl rfl) rfl rfl rfl rfl (by omega) ?_
        refine AtL.fieldAddr tf_fo63_1 (.inl rfl) rfl rfl ?_
        refine AtL.load (v := .slice ((l.getD i ((false, ⟨none, 0, []⟩, [], false) : Bool × Vs UInt8 × List UInt8 × Bool)).2.1.A) ((l.getD i ((false, ⟨none, 0, []⟩, [], false) : Bool × Vs UInt8 × List UInt8 × Bool)).2.1.l).length ((l.getD i ((false, ⟨none, 0, []⟩, [], false) : Bool × Vs UInt8 × List UInt8 × Bool)).2.1.C)) tf_flat22 (.inl rfl) rfl rfl (Rd.cell_at (Rd.skip 3 h) (j := 1) (getD_some ((false, ⟨none, 0, []⟩, [], false) : Bool × Vs UInt8 × List UInt8 × Bool) (by omega)) rfl) ?_
        refine AtL.lenL Tryz.underlying22 (.inl rfl) rfl rfl ?_
        refine AtL.gtr (.inl rfl) rfl rfl rfl ?_
        refine AtL.move (.inl rfl) rfl rfl ?_
        refine AtL.join 8 (E' := [(47, .bool (decide ((600 < (((l.getD i ((false, ⟨none, 0, []⟩, [], false) : Bool × Vs UInt8 × List UInt8 × Bool)).2.1.l).length : Int)) ∨ (3000 < (((l.getD i ((false, ⟨none, 0, []⟩, [], false) : Bool × Vs UInt8 × List UInt8 × Bool)).2.2.1).length : Int))))), (0, .slice A l.length C), (1, .slice Ac ns.length Cc), (5, .bool true), (6, .slice y.A y.l.length y.C), (7, .slice wv.A wv.l.length wv.C), (8, .bool ov), (9, .int .i64 (i : Int))]) (H' := segsOf fss :: y.s :: wv.s :: H) (fun J => ?_) ?_
        · refine AtL.split (t := 39) rfl ?_ ?_
          · intro hs39
            have hs39 : 600 < (((l.getD i ((false, ⟨none, 0, []⟩, [], false) : Bool × Vs UInt8 × List UInt8 × Bool)).2.1.l).length : Int) := of_decide_eq_true hs39
            refine AtL.skipped rfl rfl rfl rfl rfl rfl ?_
            refine AtL.skipped rfl rfl rfl rfl rfl rfl ?_
            refine AtL.skipped rfl rfl rfl rfl rfl rfl ?_
            refine AtL.skipped rfl rfl rfl rfl rfl rfl ?_
            refine AtL.skipped rfl rfl rfl rfl rfl rfl ?_
            refine AtL.skipped rfl rfl rfl rfl rfl rfl ?_
            refine AtL.skipped rfl rfl rfl rfl rfl rfl ?_
            refine AtL.pickT (.inl rfl) rfl rfl rfl ?_
            exact J _ (by exact ⟨(boolIs (by clear J; first | (simp [hs39]; done) | (simp_all; done) | grind)), rfl, rfl, rfl, rfl, rfl, rfl, rfl, trivial⟩)
          · intro hs39
            have hs39 : ¬ (600 < (((l.getD i ((false, ⟨none, 0, []⟩, [], false) : Bool × Vs UInt8 × List UInt8 × Bool)).2.1.l).length : Int)) := of_decide_eq_false hs39
            refine AtL.move (.inr ⟨_, _, _, rfl, rfl, rfl, rfl⟩) rfl rfl ?_
            refine AtL.move (.inr ⟨_, _, _, rfl, rfl, rfl, rfl⟩) rfl rfl ?_
            refine AtL.indexL i (Rd.skip 3 h) Tryz.underlying61 tf_sz63 (.inr ⟨_, _, _, rfl, rfl, rfl, rfl⟩) rfl rfl rfl rfl (by omega) ?_
            refine AtL.fieldAddr tf_fo63_2 (.inr ⟨_, _, _, rfl, rfl, rfl, rfl⟩) rfl rfl ?_
            refine AtL.load (v := str ((l.getD i ((false, ⟨none, 0, []⟩, [], false) : Bool × Vs UInt8 × List UInt8 × Bool)).2.2.1)) tf_flat9 (.inr ⟨_, _, _, rfl, rfl, rfl, rfl⟩) rfl rfl (Rd.cell_at (Rd.skip 3 h) (j := 2) (getD_some ((false, ⟨none, 0, []⟩, [], false) : Bool × Vs UInt8 × List UInt8 × Bool) (by omega)) rfl) ?_
            refine AtL.lenS (l := (l.getD i ((false, ⟨none, 0, []⟩, [], false) : Bool × Vs UInt8 × List UInt8 × Bool)).2.2.1) Tryz.underlying9 (.inr ⟨_, _, _, rfl, rfl, rfl, rfl⟩) rfl rfl ?_
            refine AtL.gtr (.inr ⟨_, _, _, rfl, rfl, rfl, rfl⟩) rfl rfl rfl ?_
            refine AtL.pickF (.inl rfl) rfl rfl rfl ?_
            exact J _ (by exact ⟨(boolIs (by clear J; first | (simp [hs39]; done) | (simp_all; done) | grind)), rfl, rfl, rfl, rfl, rfl, rfl, rfl, trivial⟩)
        · skip
          refine AtL.done ?_
          refine At.cond rfl ?_ ?_
          · intro hc3
            have hc3 : (600 < (((l.getD i ((false, ⟨none, 0, []⟩, [], false) : Bool × Vs UInt8 × List UInt8 × Bool)).2.1.l).length : Int)) ∨ (3000 < (((l.getD i ((false, ⟨none, 0, []⟩, [], false) : Bool × Vs UInt8 × List UInt8 × Bool)).2.2.1).length : Int)) := of_decide_eq_true hc3
            refine At.seq ?_
            refine At.region ?_
            refine AtL.move (.inl rfl) rfl rfl ?_
            refine AtL.assign (.inl rfl) rfl rfl ?_
            refine AtL.done ?_
            refine At.pick (H' := H) [] 3 rfl rfl ?_
            exact At.ret Tryz.func9 rfl rfl (⟨rfl, rfl⟩)
          · intro hc3
            have hc3 : ¬ ((600 < (((l.getD i ((false, ⟨none, 0, []⟩, [], false) : Bool × Vs UInt8 × List UInt8 × Bool)).2.1.l).length : Int)) ∨ (3000 < (((l.getD i ((false, ⟨none, 0, []⟩, [], false) : Bool × Vs UInt8 × List UInt8 × Bool)).2.2.1).length : Int))) := of_decide_eq_false hc3
            have hbe := he _ (getD_mem (l := l) (i := i) (d := ((false, ⟨none, 0, []⟩, [], false) : Bool × Vs UInt8 × List UInt8 × Bool)) (by omega))
            refine At.skip ?_
            refine At.seq ?_
            refine At.region ?_
            refine AtL.move (.inl rfl) rfl rfl ?_
            refine AtL.move (.inl rfl) rfl rfl ?_
            refine AtL.indexL i (Rd.skip 3 h) Tryz.underlying61 tf_sz63 (.inl rfl) rfl rfl rfl rfl (by omega) ?_
            refine AtL.loadE (n := 0) (Rd.skip 3 h) (getD_some ((false, ⟨none, 0, []⟩, [], false) : Bool × Vs UInt8 × List UInt8 × Bool) (by omega)) rfl tf_agg63 (.inl rfl) rfl rfl ?_
            refine AtL.call tf_body34 (.inl rfl) rfl rfl (request_ok (Rd.skip 3 (he _ (getD_mem (l := l) (i := i) (d := ((false, ⟨none, 0, []⟩, [], false) : Bool × Vs UInt8 × List UInt8 × Bool)) (by omega)))) ((l.getD i ((false, ⟨none, 0, []⟩, [], false) : Bool × Vs UInt8 × List UInt8 × Bool)).1) ((l.getD i ((false, ⟨none, 0, []⟩, [], false) : Bool × Vs UInt8 × List UInt8 × Bool)).2.2.2) (by omega) (by omega)) ?_
            rintro _ _ ⟨⟨A1, C2, l3, s4, o5⟩, ⟨A6, C7, l8, s9, o10⟩, hx11, hf12, rfl, rfl⟩
            obtain rfl : writeL (askHd ((l.getD i ((false, ⟨none, 0, []⟩, [], false) : Bool × Vs UInt8 × List UInt8 × Bool)).1) ((l.getD i ((false, ⟨none, 0, []⟩, [], false) : Bool × Vs UInt8 × List UInt8 × Bool)).2.1.l).length ((l.getD i ((false, ⟨none, 0, []⟩, [], false) : Bool × Vs UInt8 × List UInt8 × Bool)).2.2.1) ((l.getD i ((false, ⟨none, 0, []⟩, [], false) : Bool × Vs UInt8 × List UInt8 × Bool)).2.2.2)) ++ ((l.getD i ((false, ⟨none, 0, []⟩, [], false) : Bool × Vs UInt8 × List UInt8 × Bool)).2.1.l) = l3 := hx11.symm
            obtain rfl : (askHd ((l.getD i ((false, ⟨none, 0, []⟩, [], false) : Bool × Vs UInt8 × List UInt8 × Bool)).1) ((l.getD i ((false, ⟨none, 0, []⟩, [], false) : Bool × Vs UInt8 × List UInt8 × Bool)).2.1.l).length ((l.getD i ((false, ⟨none, 0, []⟩, [], false) : Bool × Vs UInt8 × List UInt8 × Bool)).2.2.1) ((l.getD i ((false, ⟨none, 0, []⟩, [], false) : Bool × Vs UInt8 × List UInt8 × Bool)).2.2.2)).fs = l8 := hf12.symm
            have hwl := writeL_len (askHd ((l.getD i ((false, ⟨none, 0, []⟩, [], false) : Bool × Vs UInt8 × List UInt8 × Bool)).1) ((l.getD i ((false, ⟨none, 0, []⟩, [], false) : Bool × Vs UInt8 × List UInt8 × Bool)).2.1.l).length ((l.getD i ((false, ⟨none, 0, []⟩, [], false) : Bool × Vs UInt8 × List UInt8 × Bool)).2.2.1) ((l.getD i ((false, ⟨none, 0, []⟩, [], false) : Bool × Vs UInt8 × List UInt8 × Bool)).2.2.2))
            refine AtL.move (.inl rfl) rfl rfl ?_
            refine AtL.extract (.inl rfl) rfl rfl rfl ?_
            refine AtL.extract (.inl rfl) rfl rfl rfl ?_
            refine AtL.extract (.inl rfl) rfl rfl rfl ?_
            refine AtL.alloc tf_zero47 (cs := #[str [], str [], .int .i64 0, .slice none 0 0]) rfl (.inl rfl) rfl ?_
            intro b13
            refine AtL.assign (.inl rfl) rfl rfl ?_
            refine AtL.store (H' := [(b13, .cells #[str ((askHd ((l.getD i ((false, ⟨none, 0, []⟩, [], false) : Bool × Vs UInt8 × List UInt8 × Bool)).1) ((l.getD i ((false, ⟨none, 0, []⟩, [], false) : Bool × Vs UInt8 × List UInt8 × Bool)).2.1.l).length ((l.getD i ((false, ⟨none, 0, []⟩, [], false) : Bool × Vs UInt8 × List UInt8 × Bool)).2.2.1) ((l.getD i ((false, ⟨none, 0, []⟩, [], false) : Bool × Vs UInt8 × List UInt8 × Bool)).2.2.2)).m), str ((l.getD i ((false, ⟨none, 0, []⟩, [], false) : Bool × Vs UInt8 × List UInt8 × Bool)).2.2.1), .int .i64 1, .slice A6 ((askHd ((l.getD i ((false, ⟨none, 0, []⟩, [], false) : Bool × Vs UInt8 × List UInt8 × Bool)).1) ((l.getD i ((false, ⟨none, 0, []⟩, [], false) : Bool × Vs UInt8 × List UInt8 × Bool)).2.1.l).length ((l.getD i ((false, ⟨none, 0, []⟩, [], false) : Bool × Vs UInt8 × List UInt8 × Bool)).2.2.1) ((l.getD i ((false, ⟨none, 0, []⟩, [], false) : Bool × Vs UInt8 × List UInt8 × Bool)).2.2.2)).fs).length C7] 47 (0, 0))] :: s4 :: s9 :: segsOf fss :: y.s :: wv.s :: H) 0 0 tf_sz47 (.inl rfl) rfl rfl rfl rfl rfl rfl rfl rfl rfl ?_
            refine AtL.assign (.inl rfl) rfl rfl ?_
            refine AtL.done ?_
            refine At.seq ?_
            refine At.seq ?_
            refine At.region ?_
            refine AtL.move (.inl rfl) rfl rfl ?_
            refine AtL.not (.inl rfl) rfl rfl ?_
            refine AtL.done ?_
            refine At.cond rfl ?_ ?_
            · intro hc4
              have hc4 : ¬ (writeE (askHd ((l.getD i ((false, ⟨none, 0, []⟩, [], false) : Bool × Vs UInt8 × List UInt8 × Bool)).1) ((l.getD i ((false, ⟨none, 0, []⟩, [], false) : Bool × Vs UInt8 × List UInt8 × Bool)).2.1.l).length ((l.getD i ((false, ⟨none, 0, []⟩, [], false) : Bool × Vs UInt8 × List UInt8 × Bool)).2.2.1) ((l.getD i ((false, ⟨none, 0, []⟩, [], false) : Bool × Vs UInt8 × List UInt8 × Bool)).2.2.2)) = 0) := of_decide_eq_false (bnot_true hc4)
              refine At.seq ?_
              refine At.region ?_
              refine AtL.move (.inl rfl) rfl rfl ?_
              refine AtL.assign (.inl rfl) rfl rfl ?_
              refine AtL.done ?_
              refine At.pick (H' := H) [] 6 rfl rfl ?_
              exact At.ret Tryz.func9 rfl rfl (⟨rfl, rfl⟩)
            · intro hc4
              have hc4 : writeE (askHd ((l.getD i ((false, ⟨none, 0, []⟩, [], false) : Bool × Vs UInt8 × List UInt8 × Bool)).1) ((l.getD i ((false, ⟨none, 0, []⟩, [], false) : Bool × Vs UInt8 × List UInt8 × Bool)).2.1.l).length ((l.getD i ((false, ⟨none, 0, []⟩, [], false) : Bool × Vs UInt8 × List UInt8 × Bool)).2.2.1) ((l.getD i ((false, ⟨none, 0, []⟩, [], false) : Bool × Vs UInt8 × List UInt8 × Bool)).2.2.2)) = 0 := of_decide_eq_true (bnot_false hc4)
              have hw0 : writeE (askHd ((l.getD i ((false, ⟨none, 0, []⟩, [], false) : Bool × Vs UInt8 × List UInt8 × Bool)).1) ((l.getD i ((false, ⟨none, 0, []⟩, [], false) : Bool × Vs UInt8 × List UInt8 × Bool)).2.1.l).length ((l.getD i ((false, ⟨none, 0, []⟩, [], false) : Bool × Vs UInt8 × List UInt8 × Bool)).2.2.1) ((l.getD i ((false, ⟨none, 0, []⟩, [], false) : Bool × Vs UInt8 × List UInt8 × Bool)).2.2.2)) = 0 := by simpa using hc4
              refine At.skip ?_
              refine At.seq ?_
              refine At.region ?_
              refine AtL.move (.inl rfl) rfl rfl ?_
              refine AtL.move (.inl rfl) rfl rfl ?_
              refine AtL.append (l := y.l) (news := writeL (askHd ((l.getD i ((false, ⟨none, 0, []⟩, [], false) : Bool × Vs UInt8 × List UInt8 × Bool)).1) ((l.getD i ((false, ⟨none, 0, []⟩, [], false) : Bool × Vs UInt8 × List UInt8 × Bool)).2.1.l).length ((l.getD i ((false, ⟨none, 0, []⟩, [], false) : Bool × Vs UInt8 × List UInt8 × Bool)).2.2.1) ((l.getD i ((false, ⟨none, 0, []⟩, [], false) : Bool × Vs UInt8 × List UInt8 × Bool)).2.2.2)) ++ ((l.getD i ((false, ⟨none, 0, []⟩, [], false) : Bool × Vs UInt8 × List UInt8 × Bool)).2.1.l)) 4 tf_el22 rfl y.own (o5.rd (i := 1) rfl) (by first | omega | (simp only [List.length_append, List.length_cons, List.length_nil]; omega) | (simp; done) | (simp; omega)) (.inl rfl) rfl rfl rfl ?_
              intro A14 C15 s16 o17
              refine AtL.assign (.inl rfl) rfl rfl ?_
              refine AtL.done ?_
              refine At.seq ?_
              refine At.seq ?_
              refine At.region ?_
              refine AtL.move (.inl rfl) rfl rfl ?_
              refine AtL.not (.inl rfl) rfl rfl ?_
              refine AtL.done ?_
              refine At.cond rfl ?_ ?_
              · intro hc5
                have hc5 : ov = false := bnot_true hc5
                obtain rfl : ov = false := by simpa using hc5
                refine At.draw (es := [13, 14]) (pv := [(0, .slice wv.A wv.l.length wv.C), (1, .agg #[str ((askHd ((l.getD i ((false, ⟨none, 0, []⟩, [], false) : Bool × Vs UInt8 × List UInt8 × Bool)).1) ((l.getD i ((false, ⟨none, 0, []⟩, [], false) : Bool × Vs UInt8 × List UInt8 × Bool)).2.1.l).length ((l.getD i ((false, ⟨none, 0, []⟩, [], false) : Bool × Vs UInt8 × List UInt8 × Bool)).2.2.1) ((l.getD i ((false, ⟨none, 0, []⟩, [], false) : Bool × Vs UInt8 × List UInt8 × Bool)).2.2.2)).m), str ((l.getD i ((false, ⟨none, 0, []⟩, [], false) : Bool × Vs UInt8 × List UInt8 × Bool)).2.2.1), .int .i64 1, .slice A6 ((askHd ((l.getD i ((false, ⟨none, 0, []⟩, [], false) : Bool × Vs UInt8 × List UInt8 × Bool)).1) ((l.getD i ((false, ⟨none, 0, []⟩, [], false) : Bool × Vs UInt8 × List UInt8 × Bool)).2.1.l).length ((l.getD i ((false, ⟨none, 0, []⟩, [], false) : Bool × Vs UInt8 × List UInt8 × Bool)).2.2.1) ((l.getD i ((false, ⟨none, 0, []⟩, [], false) : Bool × Vs UInt8 × List UInt8 × Bool)).2.2.2)).fs).length C7]), (2, .slice A l.length C), (3, .int .i64 (i : Int)), (4, .pointer (some (eaddr A (i * tyAsk.sz)))), (5, .pointer (some ((eaddr A (i * tyAsk.sz)).add 1))), (6, .slice ((l.getD i ((false, ⟨none, 0, []⟩, [], false) : Bool × Vs UInt8 × List UInt8 × Bool)).2.1.A) ((l.getD i ((false, ⟨none, 0, []⟩, [], false) : Bool × Vs UInt8 × List UInt8 × Bool)).2.1.l).length ((l.getD i ((false, ⟨none, 0, []⟩, [], false) : Bool × Vs UInt8 × List UInt8 × Bool)).2.1.C)), (7, .slice A l.length C), (8, .int .i64 (i : Int)), (9, .pointer (some (eaddr A (i * tyAsk.sz)))), (10, .pointer (some ((eaddr A (i * tyAsk.sz)).add 3))), (11, .bool ((l.getD i ((false, ⟨none, 0, []⟩, [], false) : Bool × Vs UInt8 × List UInt8 × Bool)).2.2.2)), (12, .agg #[.int .i64 200, str ((askHd ((l.getD i ((false, ⟨none, 0, []⟩, [], false) : Bool × Vs UInt8 × List UInt8 × Bool)).1) ((l.getD i ((false, ⟨none, 0, []⟩, [], false) : Bool × Vs UInt8 × List UInt8 × Bool)).2.1.l).length ((l.getD i ((false, ⟨none, 0, []⟩, [], false) : Bool × Vs UInt8 × List UInt8 × Bool)).2.2.1) ((l.getD i ((false, ⟨none, 0, []⟩, [], false) : Bool × Vs UInt8 × List UInt8 × Bool)).2.2.2)).m), str ((l.getD i ((false, ⟨none, 0, []⟩, [], false) : Bool × Vs UInt8 × List UInt8 × Bool)).2.2.1), .int .i64 1, .slice A6 ((askHd ((l.getD i ((false, ⟨none, 0, []⟩, [], false) : Bool × Vs UInt8 × List UInt8 × Bool)).1) ((l.getD i ((false, ⟨none, 0, []⟩, [], false) : Bool × Vs UInt8 × List UInt8 × Bool)).2.1.l).length ((l.getD i ((false, ⟨none, 0, []⟩, [], false) : Bool × Vs UInt8 × List UInt8 × Bool)).2.2.1) ((l.getD i ((false, ⟨none, 0, []⟩, [], false) : Bool × Vs UInt8 × List UInt8 × Bool)).2.2.2)).fs).length C7, .slice ((l.getD i ((false, ⟨none, 0, []⟩, [], false) : Bool × Vs UInt8 × List UInt8 × Bool)).2.1.A) ((l.getD i ((false, ⟨none, 0, []⟩, [], false) : Bool × Vs UInt8 × List UInt8 × Bool)).2.1.l).length ((l.getD i ((false, ⟨none, 0, []⟩, [], false) : Bool × Vs UInt8 × List UInt8 × Bool)).2.1.C), .bool ((l.getD i ((false, ⟨none, 0, []⟩, [], false) : Bool × Vs UInt8 × List UInt8 × Bool)).2.2.2)])]) tf_mixed (by kernel_rfl) (by kernel_rfl) (by kernel_rfl) ?_
                refine ⟨⟨.inr ⟨_, rfl, rfl, .inl ⟨rfl, Do.move rfl⟩⟩, .inr ⟨_, rfl, rfl, .inl ⟨rfl, Do.loadN (cs := [str ((askHd ((l.getD i ((false, ⟨none, 0, []⟩, [], false) : Bool × Vs UInt8 × List UInt8 × Bool)).1) ((l.getD i ((false, ⟨none, 0, []⟩, [], false) : Bool × Vs UInt8 × List UInt8 × Bool)).2.1.l).length ((l.getD i ((false, ⟨none, 0, []⟩, [], false) : Bool × Vs UInt8 × List UInt8 × Bool)).2.2.1) ((l.getD i ((false, ⟨none, 0, []⟩, [], false) : Bool × Vs UInt8 × List UInt8 × Bool)).2.2.2)).m), str ((l.getD i ((false, ⟨none, 0, []⟩, [], false) : Bool × Vs UInt8 × List UInt8 × Bool)).2.2.1), .int .i64 1, .slice A6 ((askHd ((l.getD i ((false, ⟨none, 0, []⟩, [], false) : Bool × Vs UInt8 × List UInt8 × Bool)).1) ((l.getD i ((false, ⟨none, 0, []⟩, [], false) : Bool × Vs UInt8 × List UInt8 × Bool)).2.1.l).length ((l.getD i ((false, ⟨none, 0, []⟩, [], false) : Bool × Vs UInt8 × List UInt8 × Bool)).2.2.1) ((l.getD i ((false, ⟨none, 0, []⟩, [], false) : Bool × Vs UInt8 × List UInt8 × Bool)).2.2.2)).fs).length C7]) tf_agg47 rfl rfl (cellsOwn 0 0 0 rfl rfl rfl)⟩⟩, .inr ⟨_, rfl, rfl, .inl ⟨rfl, Do.move rfl⟩⟩, .inr ⟨_, rfl, rfl, .inl ⟨rfl, Do.move rfl⟩⟩, .inr ⟨_, rfl, rfl, .inl ⟨rfl, Do.indexL i (Rd.skip 6 h) Tryz.underlying61 tf_sz63 rfl rfl rfl (by omega)⟩⟩, .inr ⟨_, rfl, rfl, .inl ⟨rfl, Do.fieldAddr tf_fo63_1 rfl⟩⟩, .inr ⟨_, rfl, rfl, .inl ⟨rfl, Do.load (v := .slice ((l.getD i ((false, ⟨none, 0, []⟩, [], false) : Bool × Vs UInt8 × List UInt8 × Bool)).2.1.A) ((l.getD i ((false, ⟨none, 0, []⟩, [], false) : Bool × Vs UInt8 × List UInt8 × Bool)).2.1.l).length ((l.getD i ((false, ⟨none, 0, []⟩, [], false) : Bool × Vs UInt8 × List UInt8 × Bool)).2.1.C)) tf_flat22 rfl (Rd.cell_at (Rd.skip 6 h) (j := 1) (getD_some ((false, ⟨none, 0, []⟩, [], false) : Bool × Vs UInt8 × List UInt8 × Bool) (by omega)) rfl)⟩⟩, .inr ⟨_, rfl, rfl, .inl ⟨rfl, Do.move rfl⟩⟩, .inr ⟨_, rfl, rfl, .inl ⟨rfl, Do.move rfl⟩⟩, .inr ⟨_, rfl, rfl, .inl ⟨rfl, Do.indexL i (Rd.skip 6 h) Tryz.underlying61 tf_sz63 rfl rfl rfl (by omega)⟩⟩, .inr ⟨_, rfl, rfl, .inl ⟨rfl, Do.fieldAddr tf_fo63_3 rfl⟩⟩, .inr ⟨_, rfl, rfl, .inl ⟨rfl, Do.load (v := .bool ((l.getD i ((false, ⟨none, 0, []⟩, [], false) : Bool × Vs UInt8 × List UInt8 × Bool)).2.2.2)) tf_flat4 rfl (Rd.cell_at (Rd.skip 6 h) (j := 3) (getD_some ((false, ⟨none, 0, []⟩, [], false) : Bool × Vs UInt8 × List UInt8 × Bool) (by omega)) rfl)⟩⟩, .inr ⟨_, rfl, rfl, .inl ⟨rfl, Do.build (cs := [.int .i64 200, str ((askHd ((l.getD i ((false, ⟨none, 0, []⟩, [], false) : Bool × Vs UInt8 × List UInt8 × Bool)).1) ((l.getD i ((false, ⟨none, 0, []⟩, [], false) : Bool × Vs UInt8 × List UInt8 × Bool)).2.1.l).length ((l.getD i ((false, ⟨none, 0, []⟩, [], false) : Bool × Vs UInt8 × List UInt8 × Bool)).2.2.1) ((l.getD i ((false, ⟨none, 0, []⟩, [], false) : Bool × Vs UInt8 × List UInt8 × Bool)).2.2.2)).m), str ((l.getD i ((false, ⟨none, 0, []⟩, [], false) : Bool × Vs UInt8 × List UInt8 × Bool)).2.2.1), .int .i64 1, .slice A6 ((askHd ((l.getD i ((false, ⟨none, 0, []⟩, [], false) : Bool × Vs UInt8 × List UInt8 × Bool)).1) ((l.getD i ((false, ⟨none, 0, []⟩, [], false) : Bool × Vs UInt8 × List UInt8 × Bool)).2.1.l).length ((l.getD i ((false, ⟨none, 0, []⟩, [], false) : Bool × Vs UInt8 × List UInt8 × Bool)).2.2.1) ((l.getD i ((false, ⟨none, 0, []⟩, [], false) : Bool × Vs UInt8 × List UInt8 × Bool)).2.2.2)).fs).length C7, .slice ((l.getD i ((false, ⟨none, 0, []⟩, [], false) : Bool × Vs UInt8 × List UInt8 × Bool)).2.1.A) ((l.getD i ((false, ⟨none, 0, []⟩, [], false) : Bool × Vs UInt8 × List UInt8 × Bool)).2.1.l).length ((l.getD i ((false, ⟨none, 0, []⟩, [], false) : Bool × Vs UInt8 × List UInt8 × Bool)).2.1.C), .bool ((l.getD i ((false, ⟨none, 0, []⟩, [], false) : Bool × Vs UInt8 × List UInt8 × Bool)).2.2.2)]) tf_lay49 rfl rfl⟩⟩, trivial⟩, rfl, rfl, by kernel_rfl, _, rfl, rfl, rfl, _, Do.own1 tyItem (l := ([((200 : Int), ((askHd ((l.getD i ((false, ⟨none, 0, []⟩, [], false) : Bool × Vs UInt8 × List UInt8 × Bool)).1) ((l.getD i ((false, ⟨none, 0, []⟩, [], false) : Bool × Vs UInt8 × List UInt8 × Bool)).2.1.l).length ((l.getD i ((false, ⟨none, 0, []⟩, [], false) : Bool × Vs UInt8 × List UInt8 × Bool)).2.2.1) ((l.getD i ((false, ⟨none, 0, []⟩, [], false) : Bool × Vs UInt8 × List UInt8 × Bool)).2.2.2)).m : List UInt8), ((l.getD i ((false, ⟨none, 0, []⟩, [], false) : Bool × Vs UInt8 × List UInt8 × Bool)).2.2.1 : List UInt8), (1 : Int), (⟨A6, C7, (askHd ((l.getD i ((false, ⟨none, 0, []⟩, [], false) : Bool × Vs UInt8 × List UInt8 × Bool)).1) ((l.getD i ((false, ⟨none, 0, []⟩, [], false) : Bool × Vs UInt8 × List UInt8 × Bool)).2.1.l).length ((l.getD i ((false, ⟨none, 0, []⟩, [], false) : Bool × Vs UInt8 × List UInt8 × Bool)).2.2.1) ((l.getD i ((false, ⟨none, 0, []⟩, [], false) : Bool × Vs UInt8 × List UInt8 × Bool)).2.2.2)).fs⟩ : Vs (List UInt8 × List UInt8)), (⟨(l.getD i ((false, ⟨none, 0, []⟩, [], false) : Bool × Vs UInt8 × List UInt8 × Bool)).2.1.A, (l.getD i ((false, ⟨none, 0, []⟩, [], false) : Bool × Vs UInt8 × List UInt8 × Bool)).2.1.C, (l.getD i ((false, ⟨none, 0, []⟩, [], false) : Bool × Vs UInt8 × List UInt8 × Bool)).2.1.l⟩ : Vs UInt8), (l.getD i ((false, ⟨none, 0, []⟩, [], false) : Bool × Vs UInt8 × List UInt8 × Bool)).2.2.2)] : List (Int × List UInt8 × List UInt8 × Int × Vs (List UInt8 × List UInt8) × Vs UInt8 × Bool))) (Do.buildSlice (cs := [.int .i64 200, str ((askHd ((l.getD i ((false, ⟨none, 0, []⟩, [], false) : Bool × Vs UInt8 × List UInt8 × Bool)).1) ((l.getD i ((false, ⟨none, 0, []⟩, [], false) : Bool × Vs UInt8 × List UInt8 × Bool)).2.1.l).length ((l.getD i ((false, ⟨none, 0, []⟩, [], false) : Bool × Vs UInt8 × List UInt8 × Bool)).2.2.1) ((l.getD i ((false, ⟨none, 0, []⟩, [], false) : Bool × Vs UInt8 × List UInt8 × Bool)).2.2.2)).m), str ((l.getD i ((false, ⟨none, 0, []⟩, [], false) : Bool × Vs UInt8 × List UInt8 × Bool)).2.2.1), .int .i64 1, .slice A6 ((askHd ((l.getD i ((false, ⟨none, 0, []⟩, [], false) : Bool × Vs UInt8 × List UInt8 × Bool)).1) ((l.getD i ((false, ⟨none, 0, []⟩, [], false) : Bool × Vs UInt8 × List UInt8 × Bool)).2.1.l).length ((l.getD i ((false, ⟨none, 0, []⟩, [], false) : Bool × Vs UInt8 × List UInt8 × Bool)).2.2.1) ((l.getD i ((false, ⟨none, 0, []⟩, [], false) : Bool × Vs UInt8 × List UInt8 × Bool)).2.2.2)).fs).length C7, .slice ((l.getD i ((false, ⟨none, 0, []⟩, [], false) : Bool × Vs UInt8 × List UInt8 × Bool)).2.1.A) ((l.getD i ((false, ⟨none, 0, []⟩, [], false) : Bool × Vs UInt8 × List UInt8 × Bool)).2.1.l).length ((l.getD i ((false, ⟨none, 0, []⟩, [], false) : Bool × Vs UInt8 × List UInt8 × Bool)).2.1.C), .bool ((l.getD i ((false, ⟨none, 0, []⟩, [], false) : Bool × Vs UInt8 × List UInt8 × Bool)).2.2.2)]) Tryz.underlying40 tf_zero49 tf_sz49 rfl rfl rfl rfl) rfl rfl (by first | decide | simp), ?_⟩
                rintro _ _ ⟨b18, s19, o20, rfl, rfl⟩
                refine ⟨[], rfl, ?_⟩
                refine ⟨⟨.inr ⟨_, rfl, rfl, .inl ⟨rfl, Do.move rfl⟩⟩, .inl (by kernel_rfl), .inl (by kernel_rfl), .inl (by kernel_rfl), .inl (by kernel_rfl), .inl (by kernel_rfl), .inl (by kernel_rfl), .inl (by kernel_rfl), .inl (by kernel_rfl), .inl (by kernel_rfl), .inl (by kernel_rfl), .inl (by kernel_rfl), .inl (by kernel_rfl), trivial⟩, rfl, rfl, by kernel_rfl, _, rfl, rfl, rfl, _, Do.append (l := wv.l) (news := [((200 : Int), ((askHd ((l.getD i ((false, ⟨none, 0, []⟩, [], false) : Bool × Vs UInt8 × List UInt8 × Bool)).1) ((l.getD i ((false, ⟨none, 0, []⟩, [], false) : Bool × Vs UInt8 × List UInt8 × Bool)).2.1.l).length ((l.getD i ((false, ⟨none, 0, []⟩, [], false) : Bool × Vs UInt8 × List UInt8 × Bool)).2.2.1) ((l.getD i ((false, ⟨none, 0, []⟩, [], false) : Bool × Vs UInt8 × List UInt8 × Bool)).2.2.2)).m : List UInt8), ((l.getD i ((false, ⟨none, 0, []⟩, [], false) : Bool × Vs UInt8 × List UInt8 × Bool)).2.2.1 : List UInt8), (1 : Int), (⟨A6, C7, (askHd ((l.getD i ((false, ⟨none, 0, []⟩, [], false) : Bool × Vs UInt8 × List UInt8 × Bool)).1) ((l.getD i ((false, ⟨none, 0, []⟩, [], false) : Bool × Vs UInt8 × List UInt8 × Bool)).2.1.l).length ((l.getD i ((false, ⟨none, 0, []⟩, [], false) : Bool × Vs UInt8 × List UInt8 × Bool)).2.2.1) ((l.getD i ((false, ⟨none, 0, []⟩, [], false) : Bool × Vs UInt8 × List UInt8 × Bool)).2.2.2)).fs⟩ : Vs (List UInt8 × List UInt8)), (⟨(l.getD i ((false, ⟨none, 0, []⟩, [], false) : Bool × Vs UInt8 × List UInt8 × Bool)).2.1.A, (l.getD i ((false, ⟨none, 0, []⟩, [], false) : Bool × Vs UInt8 × List UInt8 × Bool)).2.1.C, (l.getD i ((false, ⟨none, 0, []⟩, [], false) : Bool × Vs UInt8 × List UInt8 × Bool)).2.1.l⟩ : Vs UInt8), (l.getD i ((false, ⟨none, 0, []⟩, [], false) : Bool × Vs UInt8 × List UInt8 × Bool)).2.2.2)]) 6 tf_el40 rfl wv.own (o20.rd (i := 0) rfl) (by first | omega | (simp only [List.length_append, List.length_cons, List.length_nil]; omega) | (simp; done) | (simp; omega)) rfl rfl, ?_⟩
                rintro _ _ ⟨A21, C22, s23, o24, rfl, rfl⟩
                refine ⟨[(15, .slice A21 (wv.l ++ ([((200 : Int), ((askHd ((l.getD i ((false, ⟨none, 0, []⟩, [], false) : Bool × Vs UInt8 × List UInt8 × Bool)).1) ((l.getD i ((false, ⟨none, 0, []⟩, [], false) : Bool × Vs UInt8 × List UInt8 × Bool)).2.1.l).length ((l.getD i ((false, ⟨none, 0, []⟩, [], false) : Bool × Vs UInt8 × List UInt8 × Bool)).2.2.1) ((l.getD i ((false, ⟨none, 0, []⟩, [], false) : Bool × Vs UInt8 × List UInt8 × Bool)).2.2.2)).m : List UInt8), ((l.getD i ((false, ⟨none, 0, []⟩, [], false) : Bool × Vs UInt8 × List UInt8 × Bool)).2.2.1 : List UInt8), (1 : Int), (⟨A6, C7, (askHd ((l.getD i ((false, ⟨none, 0, []⟩, [], false) : Bool × Vs UInt8 × List UInt8 × Bool)).1) ((l.getD i ((false, ⟨none, 0, []⟩, [], false) : Bool × Vs UInt8 × List UInt8 × Bool)).2.1.l).length ((l.getD i ((false, ⟨none, 0, []⟩, [], false) : Bool × Vs UInt8 × List UInt8 × Bool)).2.2.1) ((l.getD i ((false, ⟨none, 0, []⟩, [], false) : Bool × Vs UInt8 × List UInt8 × Bool)).2.2.2)).fs⟩ : Vs (List UInt8 × List UInt8)), (⟨(l.getD i ((false, ⟨none, 0, []⟩, [], false) : Bool × Vs UInt8 × List UInt8 × Bool)).2.1.A, (l.getD i ((false, ⟨none, 0, []⟩, [], false) : Bool × Vs UInt8 × List UInt8 × Bool)).2.1.C, (l.getD i ((false, ⟨none, 0, []⟩, [], false) : Bool × Vs UInt8 × List UInt8 × Bool)).2.1.l⟩ : Vs UInt8), (l.getD i ((false, ⟨none, 0, []⟩, [], false) : Bool × Vs UInt8 × List UInt8 × Bool)).2.2.2)])).length C22)], rfl, ?_⟩
                refine ⟨⟨.inr ⟨_, rfl, rfl, .inl ⟨rfl, Do.assign rfl⟩⟩, .inl (by kernel_rfl), .inl (by kernel_rfl), .inl (by kernel_rfl), .inl (by kernel_rfl), .inl (by kernel_rfl), .inl (by kernel_rfl), .inl (by kernel_rfl), .inl (by kernel_rfl), .inl (by kernel_rfl), .inl (by kernel_rfl), .inl (by kernel_rfl), .inl (by kernel_rfl), .inl (by kernel_rfl), trivial⟩, by kernel_rfl, ?_⟩
                refine At.mono (E' := [(0, .slice A l.length C), (1, .slice Ac ns.length Cc), (5, .bool true), (6, .slice A14 (y.l ++ (writeL (askHd ((l.getD i ((false, ⟨none, 0, []⟩, [], false) : Bool × Vs UInt8 × List UInt8 × Bool)).1) ((l.getD i ((false, ⟨none, 0, []⟩, [], false) : Bool × Vs UInt8 × List UInt8 × Bool)).2.1.l).length ((l.getD i ((false, ⟨none, 0, []⟩, [], false) : Bool × Vs UInt8 × List UInt8 × Bool)).2.2.1) ((l.getD i ((false, ⟨none, 0, []⟩, [], false) : Bool × Vs UInt8 × List UInt8 × Bool)).2.2.2)) ++ ((l.getD i ((false, ⟨none, 0, []⟩, [], false) : Bool × Vs UInt8 × List UInt8 × Bool)).2.1.l))).length C15), (7, .slice A21 (wv.l ++ ([((200 : Int), ((askHd ((l.getD i ((false, ⟨none, 0, []⟩, [], false) : Bool × Vs UInt8 × List UInt8 × Bool)).1) ((l.getD i ((false, ⟨none, 0, []⟩, [], false) : Bool × Vs UInt8 × List UInt8 × Bool)).2.1.l).length ((l.getD i ((false, ⟨none, 0, []⟩, [], false) : Bool × Vs UInt8 × List UInt8 × Bool)).2.2.1) ((l.getD i ((false, ⟨none, 0, []⟩, [], false) : Bool × Vs UInt8 × List UInt8 × Bool)).2.2.2)).m : List UInt8), ((l.getD i ((false, ⟨none, 0, []⟩, [], false) : Bool × Vs UInt8 × List UInt8 × Bool)).2.2.1 : List UInt8), (1 : Int), (⟨A6, C7, (askHd ((l.getD i ((false, ⟨none, 0, []⟩, [], false) : Bool × Vs UInt8 × List UInt8 × Bool)).1) ((l.getD i ((false, ⟨none, 0, []⟩, [], false) : Bool × Vs UInt8 × List UInt8 × Bool)).2.1.l).length ((l.getD i ((false, ⟨none, 0, []⟩, [], false) : Bool × Vs UInt8 × List UInt8 × Bool)).2.2.1) ((l.getD i ((false, ⟨none, 0, []⟩, [], false) : Bool × Vs UInt8 × List UInt8 × Bool)).2.2.2)).fs⟩ : Vs (List UInt8 × List UInt8)), (⟨(l.getD i ((false, ⟨none, 0, []⟩, [], false) : Bool × Vs UInt8 × List UInt8 × Bool)).2.1.A, (l.getD i ((false, ⟨none, 0, []⟩, [], false) : Bool × Vs UInt8 × List UInt8 × Bool)).2.1.C, (l.getD i ((false, ⟨none, 0, []⟩, [], false) : Bool × Vs UInt8 × List UInt8 × Bool)).2.1.l⟩ : Vs UInt8), (l.getD i ((false, ⟨none, 0, []⟩, [], false) : Bool × Vs UInt8 × List UInt8 × Bool)).2.2.2)])).length C22), (8, .bool false), (9, .int .i64 (i : Int))]) ⟨rfl, rfl, rfl, rfl, rfl, rfl, rfl, trivial⟩ ?_
                refine At.region ?_
                refine AtL.move (.inl rfl) rfl rfl ?_
                refine AtL.move (.inl rfl) rfl rfl ?_
                refine AtL.move (.inr ⟨_, _, _, rfl, rfl, rfl, rfl⟩) rfl rfl ?_
                refine AtL.move (.inr ⟨_, _, _, rfl, rfl, rfl, rfl⟩) rfl rfl ?_
                refine AtL.indexL i (Rd.skip 7 h) Tryz.underlying61 tf_sz63 (.inr ⟨_, _, _, rfl, rfl, rfl, rfl⟩) rfl rfl rfl rfl (by omega) ?_
                refine AtL.fieldAddr tf_fo63_3 (.inr ⟨_, _, _, rfl, rfl, rfl, rfl⟩) rfl rfl ?_
                refine AtL.load (v := .bool ((l.getD i ((false, ⟨none, 0, []⟩, [], false) : Bool × Vs UInt8 × List UInt8 × Bool)).2.2.2)) tf_flat4 (.inr ⟨_, _, _, rfl, rfl, rfl, rfl⟩) rfl rfl (Rd.cell_at (Rd.skip 7 h) (j := 3) (getD_some ((false, ⟨none, 0, []⟩, [], false) : Bool × Vs UInt8 × List UInt8 × Bool) (by omega)) rfl) ?_
                refine AtL.not (.inr ⟨_, _, _, rfl, rfl, rfl, rfl⟩) rfl rfl ?_
                refine AtL.pickF (.inl rfl) rfl rfl rfl ?_
                refine AtL.assign (.inl rfl) rfl rfl ?_
                refine AtL.done ?_
                refine At.inBlock ?_
                refine At.region ?_
                refine AtL.move (.inl rfl) rfl rfl ?_
                refine AtL.add (z := (i : Int) + 1) (.inl rfl) rfl rfl rfl (w64 (by omega) (by omega)) ?_
                refine AtL.assign (.inl rfl) rfl rfl ?_
                refine AtL.done ?_
                refine At.pick (H' := s9 :: segsOf fss :: s19 :: [(b13, .cells #[str ((askHd ((l.getD i ((false, ⟨none, 0, []⟩, [], false) : Bool × Vs UInt8 × List UInt8 × Bool)).1) ((l.getD i ((false, ⟨none, 0, []⟩, [], false) : Bool × Vs UInt8 × List UInt8 × Bool)).2.1.l).length ((l.getD i ((false, ⟨none, 0, []⟩, [], false) : Bool × Vs UInt8 × List UInt8 × Bool)).2.2.1) ((l.getD i ((false, ⟨none, 0, []⟩, [], false) : Bool × Vs UInt8 × List UInt8 × Bool)).2.2.2)).m), str ((l.getD i ((false, ⟨none, 0, []⟩, [], false) : Bool × Vs UInt8 × List UInt8 × Bool)).2.2.1), .int .i64 1, .slice A6 ((askHd ((l.getD i ((false, ⟨none, 0, []⟩, [], false) : Bool × Vs UInt8 × List UInt8 × Bool)).1) ((l.getD i ((false, ⟨none, 0, []⟩, [], false) : Bool × Vs UInt8 × List UInt8 × Bool)).2.1.l).length ((l.getD i ((false, ⟨none, 0, []⟩, [], false) : Bool × Vs UInt8 × List UInt8 × Bool)).2.2.1) ((l.getD i ((false, ⟨none, 0, []⟩, [], false) : Bool × Vs UInt8 × List UInt8 × Bool)).2.2.2)).fs).length C7] 47 (0, 0))] :: s4 :: s16 :: s23 :: H) [3, 4, 0, 1, 2, 5, 6] 7 rfl rfl ?_
                refine At.flat (flat_snoc ⟨A6, C7, (askHd ((l.getD i ((false, ⟨none, 0, []⟩, [], false) : Bool × Vs UInt8 × List UInt8 × Bool)).1) ((l.getD i ((false, ⟨none, 0, []⟩, [], false) : Bool × Vs UInt8 × List UInt8 × Bool)).2.1.l).length ((l.getD i ((false, ⟨none, 0, []⟩, [], false) : Bool × Vs UInt8 × List UInt8 × Bool)).2.2.1) ((l.getD i ((false, ⟨none, 0, []⟩, [], false) : Bool × Vs UInt8 × List UInt8 × Bool)).2.2.2)).fs, s9, o10⟩ fss _) ?_
                refine At.pick (H' := segsOf (fss ++ [⟨A6, C7, (askHd ((l.getD i ((false, ⟨none, 0, []⟩, [], false) : Bool × Vs UInt8 × List UInt8 × Bool)).1) ((l.getD i ((false, ⟨none, 0, []⟩, [], false) : Bool × Vs UInt8 × List UInt8 × Bool)).2.1.l).length ((l.getD i ((false, ⟨none, 0, []⟩, [], false) : Bool × Vs UInt8 × List UInt8 × Bool)).2.2.1) ((l.getD i ((false, ⟨none, 0, []⟩, [], false) : Bool × Vs UInt8 × List UInt8 × Bool)).2.2.2)).fs, s9, o10⟩]) :: s16 :: s23 :: H) [0, 4, 5] 6 rfl rfl ?_
                refine ihL1 (i + 1) (⟨A14, C15, y.l ++ (writeL (askHd ((l.getD i ((false, ⟨none, 0, []⟩, [], false) : Bool × Vs UInt8 × List UInt8 × Bool)).1) ((l.getD i ((false, ⟨none, 0, []⟩, [], false) : Bool × Vs UInt8 × List UInt8 × Bool)).2.1.l).length ((l.getD i ((false, ⟨none, 0, []⟩, [], false) : Bool × Vs UInt8 × List UInt8 × Bool)).2.2.1) ((l.getD i ((false, ⟨none, 0, []⟩, [], false) : Bool × Vs UInt8 × List UInt8 × Bool)).2.2.2)) ++ ((l.getD i ((false, ⟨none, 0, []⟩, [], false) : Bool × Vs UInt8 × List UInt8 × Bool)).2.1.l)), s16, o17⟩) (⟨A21, C22, wv.l ++ ([((200 : Int), ((askHd ((l.getD i ((false, ⟨none, 0, []⟩, [], false) : Bool × Vs UInt8 × List UInt8 × Bool)).1) ((l.getD i ((false, ⟨none, 0, []⟩, [], false) : Bool × Vs UInt8 × List UInt8 × Bool)).2.1.l).length ((l.getD i ((false, ⟨none, 0, []⟩, [], false) : Bool × Vs UInt8 × List UInt8 × Bool)).2.2.1) ((l.getD i ((false, ⟨none, 0, []⟩, [], false) : Bool × Vs UInt8 × List UInt8 × Bool)).2.2.2)).m : List UInt8), ((l.getD i ((false, ⟨none, 0, []⟩, [], false) : Bool × Vs UInt8 × List UInt8 × Bool)).2.2.1 : List UInt8), (1 : Int), (⟨A6, C7, (askHd ((l.getD i ((false, ⟨none, 0, []⟩, [], false) : Bool × Vs UInt8 × List UInt8 × Bool)).1) ((l.getD i ((false, ⟨none, 0, []⟩, [], false) : Bool × Vs UInt8 × List UInt8 × Bool)).2.1.l).length ((l.getD i ((false, ⟨none, 0, []⟩, [], false) : Bool × Vs UInt8 × List UInt8 × Bool)).2.2.1) ((l.getD i ((false, ⟨none, 0, []⟩, [], false) : Bool × Vs UInt8 × List UInt8 × Bool)).2.2.2)).fs⟩ : Vs (List UInt8 × List UInt8)), (⟨(l.getD i ((false, ⟨none, 0, []⟩, [], false) : Bool × Vs UInt8 × List UInt8 × Bool)).2.1.A, (l.getD i ((false, ⟨none, 0, []⟩, [], false) : Bool × Vs UInt8 × List UInt8 × Bool)).2.1.C, (l.getD i ((false, ⟨none, 0, []⟩, [], false) : Bool × Vs UInt8 × List UInt8 × Bool)).2.1.l⟩ : Vs UInt8), (l.getD i ((false, ⟨none, 0, []⟩, [], false) : Bool × Vs UInt8 × List UInt8 × Bool)).2.2.2)]), s23, o24⟩) (fss ++ [⟨A6, C7, (askHd ((l.getD i ((false, ⟨none, 0, []⟩, [], false) : Bool × Vs UInt8 × List UInt8 × Bool)).1) ((l.getD i ((false, ⟨none, 0, []⟩, [], false) : Bool × Vs UInt8 × List UInt8 × Bool)).2.1.l).length ((l.getD i ((false, ⟨none, 0, []⟩, [], false) : Bool × Vs UInt8 × List UInt8 × Bool)).2.2.1) ((l.getD i ((false, ⟨none, 0, []⟩, [], false) : Bool × Vs UInt8 × List UInt8 × Bool)).2.2.2)).fs, s9, o10⟩]) (!((l.getD i ((false, ⟨none, 0, []⟩, [], false) : Bool × Vs UInt8 × List UInt8 × Bool)).2.2.2)) (⟨by omega, by dsimp only; rw [run_next hrun (ask_run (l.getD i ((false, ⟨none, 0, []⟩, [], false) : Bool × Vs UInt8 × List UInt8 × Bool)).1 (l.getD i ((false, ⟨none, 0, []⟩, [], false) : Bool × Vs UInt8 × List UInt8 × Bool)).2.2.2 (l.getD i ((false, ⟨none, 0, []⟩, [], false) : Bool × Vs UInt8 × List UInt8 × Bool)).2.2.1 (l.getD i ((false, ⟨none, 0, []⟩, [], false) : Bool × Vs UInt8 × List UInt8 × Bool)).2.1.l (by omega) hw0), if_neg (by simp), List.map_append]; rfl, el_want (f := ⟨A6, C7, (askHd ((l.getD i ((false, ⟨none, 0, []⟩, [], false) : Bool × Vs UInt8 × List UInt8 × Bool)).1) ((l.getD i ((false, ⟨none, 0, []⟩, [], false) : Bool × Vs UInt8 × List UInt8 × Bool)).2.1.l).length ((l.getD i ((false, ⟨none, 0, []⟩, [], false) : Bool × Vs UInt8 × List UInt8 × Bool)).2.2.1) ((l.getD i ((false, ⟨none, 0, []⟩, [], false) : Bool × Vs UInt8 × List UInt8 × Bool)).2.2.2)).fs, s9, o10⟩) hel rfl (he _ (getD_mem (by omega))), by simp only [List.length_append]; omega, by simp only [List.length_append, List.length_cons, List.length_nil]; omega⟩) (by omega) _ ?_
                exact ⟨rfl, rfl, rfl, (by first | rfl | exact slLen (by simp []) | exact intEq (by omega) | exact intEq (by simp []) | exact slLen (by simp []; omega)), (by first | rfl | exact slLen (by simp []) | exact intEq (by omega) | exact intEq (by simp []) | exact slLen (by simp []; omega)), (by first | rfl | exact slLen (by simp []) | exact intEq (by omega) | exact intEq (by simp []) | exact slLen (by simp []; omega)), (by first | rfl | exact slLen (by simp []) | exact intEq (by omega) | exact intEq (by simp []) | exact slLen (by simp []; omega)), trivial⟩
              · intro hc5
                have hc5 : ov = true := bnot_false hc5
                obtain rfl : ov = true := by simpa using hc5
                refine At.skip ?_
                refine At.region ?_
                refine AtL.move (.inl rfl) rfl rfl ?_
                refine AtL.move (.inl rfl) rfl rfl ?_
                refine AtL.skipped rfl rfl rfl rfl rfl rfl ?_
                refine AtL.skipped rfl rfl rfl rfl rfl rfl ?_
                refine AtL.skipped rfl rfl rfl rfl rfl rfl ?_
                refine AtL.skipped rfl rfl rfl rfl rfl rfl ?_
                refine AtL.skipped rfl rfl rfl rfl rfl rfl ?_
                refine AtL.skipped rfl rfl rfl rfl rfl rfl ?_
                refine AtL.pickT (.inl rfl) rfl rfl rfl ?_
                refine AtL.assign (.inl rfl) rfl rfl ?_
                refine AtL.done ?_
                refine At.inBlock ?_
                refine At.region ?_
                refine AtL.move (.inl rfl) rfl rfl ?_
                refine AtL.add (z := (i : Int) + 1) (.inl rfl) rfl rfl rfl (w64 (by omega) (by omega)) ?_
                refine AtL.assign (.inl rfl) rfl rfl ?_
                refine AtL.done ?_
                refine At.pick (H' := segsOf fss :: s16 :: wv.s :: H) [3, 4, 5] 6 rfl rfl ?_
                refine ihL1 (i + 1) (⟨A14, C15, y.l ++ (writeL (askHd ((l.getD i ((false, ⟨none, 0, []⟩, [], false) : Bool × Vs UInt8 × List UInt8 × Bool)).1) ((l.getD i ((false, ⟨none, 0, []⟩, [], false) : Bool × Vs UInt8 × List UInt8 × Bool)).2.1.l).length ((l.getD i ((false, ⟨none, 0, []⟩, [], false) : Bool × Vs UInt8 × List UInt8 × Bool)).2.2.1) ((l.getD i ((false, ⟨none, 0, []⟩, [], false) : Bool × Vs UInt8 × List UInt8 × Bool)).2.2.2)) ++ ((l.getD i ((false, ⟨none, 0, []⟩, [], false) : Bool × Vs UInt8 × List UInt8 × Bool)).2.1.l)), s16, o17⟩) wv fss true (⟨by omega, by dsimp only; rw [run_next hrun (ask_run (l.getD i ((false, ⟨none, 0, []⟩, [], false) : Bool × Vs UInt8 × List UInt8 × Bool)).1 (l.getD i ((false, ⟨none, 0, []⟩, [], false) : Bool × Vs UInt8 × List UInt8 × Bool)).2.2.2 (l.getD i ((false, ⟨none, 0, []⟩, [], false) : Bool × Vs UInt8 × List UInt8 × Bool)).2.2.1 (l.getD i ((false, ⟨none, 0, []⟩, [], false) : Bool × Vs UInt8 × List UInt8 × Bool)).2.1.l (by omega) hw0), if_pos rfl], hel, by simp only [List.length_append]; omega, by omega⟩) (by omega) _ ?_
                exact ⟨rfl, rfl, rfl, (by first | rfl | exact slLen (by simp []) | exact intEq (by omega) | exact intEq (by simp []) | exact slLen (by simp []; omega)), (by first | rfl | exact slLen (by simp []) | exact intEq (by omega) | exact intEq (by simp []) | exact slLen (by simp []; omega)), (by first | rfl | exact slLen (by simp []) | exact intEq (by omega) | exact intEq (by simp []) | exact slLen (by simp []; omega)), (by first | rfl | exact slLen (by simp []) | exact intEq (by omega) | exact intEq (by simp []) | exact slLen (by simp []; omega)), trivial⟩
      · intro hc2
        have hc2 : ¬ ((i : Int) < (l.length : Int)) := of_decide_eq_false hc2
        refine At.exit rfl ?_
        refine At.seq ?_
        refine At.region ?_
        refine AtL.move (.inl rfl) rfl rfl ?_
        refine AtL.move (.inl rfl) rfl rfl ?_
        refine AtL.call tf_body33 (.inl rfl) rfl rfl (cut14_ok (l := y.l) (ns := ns) (y.own.rd (i := 1) rfl) (Rd.skip 3 h2) (by first | omega | (simp only [List.length_append, List.length_cons, List.length_nil]; omega) | (simp; done) | (simp; omega)) (by omega)) ?_
        rintro _ _ ⟨⟨A32, C33, l34, s35, o36⟩, hm37, he38, rfl, rfl⟩
        obtain ⟨hf39, hk40⟩ := cut_facts (x := l34) hm37
        refine AtL.call tf_body32 (.inl rfl) rfl rfl (by have h9 := pushed14_ok (w0 := w0) (base := base) (H := s35 :: segsOf fss :: y.s :: wv.s :: H) (l := l34) (o36.rd (i := 0) rfl) (fun x hx => Rd.pick [1, 2, 3] 4 rfl rfl (he38 x hx)) (by rw [hf39]; first | omega | (simp only [List.length_append]; omega)) (by omega) T; rw [hf39] at h9; exact h9) ?_
        rintro _ _ ⟨its41, y42, hy43, hp44, rfl, rfl⟩
        have hy43e : ∀ x ∈ y42.l, Rd tyField w0 base (itS its41 :: H) x.2.2.2.2.1.A x.2.2.2.2.1.C x.2.2.2.2.1.l ∧ Rd tyB w0 base (itS its41 :: H) x.2.2.2.2.2.1.A x.2.2.2.2.2.1.C x.2.2.2.2.2.1.l := by rw [hy43]; exact it_el its41 w0 base H
        have hy43m : y42.l.map plI = (runF y.l).1 := by rw [hy43, plI_v, hp44]
        refine AtL.move (.inl rfl) rfl rfl ?_
        refine AtL.extract (.inl rfl) rfl rfl rfl ?_
        refine AtL.extract (.inl rfl) rfl rfl rfl ?_
        refine AtL.extract (.inl rfl) rfl rfl rfl ?_
        refine AtL.assign (.inl rfl) rfl rfl ?_
        refine AtL.assign (.inl rfl) rfl rfl ?_
        refine AtL.assign (.inl rfl) rfl rfl ?_
        refine AtL.done ?_
        refine At.seq ?_
        refine At.region ?_
        refine AtL.move (.inl rfl) rfl rfl ?_
        refine AtL.move (.inl rfl) rfl rfl ?_
        refine AtL.move (.inr ⟨_, _, _, rfl, rfl, rfl, rfl⟩) rfl rfl ?_
        refine AtL.pickT (.inl rfl) rfl rfl rfl ?_
        refine AtL.move (.inl rfl) rfl rfl ?_
        refine AtL.move (.inr ⟨_, _, _, rfl, rfl, rfl, rfl⟩) rfl rfl ?_
        refine AtL.move (.inr ⟨_, _, _, rfl, rfl, rfl, rfl⟩) rfl rfl ?_
        refine AtL.eqb Tryz.underlying4 (.inr ⟨_, _, _, rfl, rfl, rfl, rfl⟩) rfl rfl rfl ?_
        refine AtL.pickT (.inl rfl) rfl rfl rfl ?_
        refine AtL.move (.inl rfl) rfl rfl ?_
        refine AtL.join 4 (E' := [(111, .bool (decide (y42.l.map plI = wv.l.map plI)))]) (H' := itS its41 :: y42.s :: s35 :: segsOf fss :: y.s :: wv.s :: H) (fun J => ?_) ?_
        · refine AtL.split (t := 107) rfl ?_ ?_
          · intro hs107
            have hs107 : (((runF y.l).2.2) == ov) = true := hs107
            refine AtL.move (.inr ⟨_, _, _, rfl, rfl, rfl, rfl⟩) rfl rfl ?_
            refine AtL.move (.inr ⟨_, _, _, rfl, rfl, rfl, rfl⟩) rfl rfl ?_
            refine AtL.call tf_body27 (.inr ⟨_, _, _, rfl, rfl, rfl, rfl⟩) rfl rfl (sameitems_ok (l := y42.l) (m := wv.l) (y42.own.rd (i := 1) rfl) (wv.own.rd (i := 5) rfl) (fun x hx => ⟨Rd.pick [0] 6 rfl rfl (hy43e x hx).1, Rd.pick [0] 6 rfl rfl (hy43e x hx).2⟩) (fun x hx => ⟨Rd.pick [3] 6 rfl rfl (hel x hx).1, Rd.pick [3] 6 rfl rfl (hel x hx).2⟩)) ?_
            rintro _ _ ⟨rfl, rfl⟩
            refine AtL.pickT (.inl rfl) rfl rfl rfl ?_
            exact J _ (by exact ⟨(boolIs (by clear J; first | (simp [hs107]; done) | (simp_all; done) | grind)), trivial⟩)
          · intro hs107
            have hs107 : (((runF y.l).2.2) == ov) = false := hs107
            exfalso; revert hs107; first | (simp; done) | (intro h9; simp_all; done)
        · skip
          refine AtL.assign (.inl rfl) rfl rfl ?_
          refine AtL.done ?_
          refine At.pick (H' := H) [] 6 rfl rfl ?_
          exact At.ret Tryz.func9 rfl rfl (⟨by first | rfl | (simp_all; done) | (simp_all; rfl), rfl⟩)
end Go.Proofs.YtlkdmbpbjhjkfaaGreatDoor
namespace Go.Proofs.YtlkdmbpbjhjkfaaGreatDoor
set_option linter.unusedVariables false
theorem returns_listed {H : Type} {enc : TypeId × Value → H} {a : Assume} {C : Checked} {os : Os} {f : FuncId} {fn : Func} {s : ChangeSpec} {conds : List PathCond} {apart fresh handsOn again : Bool} {X : World → Array Value → Prop}
    (hX : ∀ (w w' : World) (args : Array Value), w.heap = w'.heap → X w args → X w' args) (own : ownKnob C.prog.godebug = none) (started : os.Started) (noInit : C.prog.inits.idxOf? f = none) (hfn : C.prog.funcs[f]? = some fn)
    (wit : ∃ (w : World) (tape : Tape) (i : Input), w.os = os ∧ (w.forCall tape i).Shaped C.prog ∧ i.vars = [] ∧ Input.okWide C.prog (w.forCall tape i) .any w.heap.size f i ∧
      ((s.pre enc C.prog fn conds apart (w.forCall tape i).memory i.args ∧ X (w.forCall tape i).memory i.args) ∧ sizedMet enc C.prog fn (OpenSpec.ofChange s) apart (w.forCall tape i).memory i.args) ∧ a.holds C.prog (lone (Frame.enter C.prog f i.args .normal) [] (w.forCall tape i)))
    (con : ∀ (W : World) (base : Nat) (args : Array Value) (ds gs : List (DataW H)) (before : List MemPlace), (∀ (j : Nat) t v, fn.params[j]? = some t → args[j]? = some v → Value.okWide C.prog W .any base t v) → DataW.Whole enc C.prog fn.params.toList s.vars apart W args.toList ds gs before →
      conds.all (PathCond.test C.prog ⟨fn.params.toList, ds, s.plain.varTypes C.prog, gs⟩) = true → (DataW.weightsEach C.prog (fn.params.toList ++ s.plain.varTypes C.prog) (ds ++ gs)).all (· ≤ reachBytes) = true → X W args → W.ShapedOpen C.prog →
      Calls C.prog f args W fun e W' => ∃ v, e = .returned v ∧ s.post enc C.prog fn apart fresh handsOn again W args v W') :
    ReturnsInHanded a C os f .any (fun w args => (s.pre enc C.prog fn conds apart w args ∧ X w args) ∧ sizedMet enc C.prog fn (OpenSpec.ofChange s) apart w args) (s.post enc C.prog fn apart fresh handsOn again) := by
  refine returnsInHanded_of_calls own started noInit wit ?_
  rintro w tape i _ hsh _ ⟨_, _, _, fn', hfn', _, _, _, _, hval⟩ ⟨⟨⟨ds, gs, before, hw, hc⟩, hx⟩, hz⟩ _
  obtain rfl : fn' = fn := Option.some.inj (hfn'.symm.trans hfn)
  refine (con (w.forCall tape i) w.heap.size i.args ds gs before hval (DataW.Whole.of_heap (w' := w.forCall tape i) (by rfl) hw) hc (hz.weights hw) (hX _ _ _ (by rfl) hx) hsh).mono ?_
  rintro _ W' ⟨v, rfl, hp⟩
  exact ChangeSpec.post_blind hp
end Go.Proofs.YtlkdmbpbjhjkfaaGreatDoor
namespace Go.Proofs.YtlkdmbpbjhjkfaaGreatDoor
set_option linter.unusedVariables false
set_option linter.unusedSimpArgs false
set_option maxRecDepth 100000
def u8ren : Go.Shelf.Ren := ⟨fun _ => 0, fun | 5 => 5 | 119 => 166 | 138 => 252 | 139 => 253 | _ => 0, fun | 3 => 4 | 4 => 5 | _ => 0⟩
theorem tabs_of {W : World} (hsh : W.ShapedOpen Tryz.prog) {d1 d2 : DataW Unit} (h3 : Go.Lib.VarReads Tryz.prog W "unicode/utf8.first" d1) (h4 : Go.Lib.VarReads Tryz.prog W "unicode/utf8.acceptRanges" d2) (e1 : d1 = Go.Lib.firstData := by kernel_rfl) (e2 : d2 = Go.Lib.acceptData := by kernel_rfl) : Tabs W W.heap.size := by
  subst e1; subst e2
  obtain ⟨m, hm⟩ := cell_of_shapedOpen_int (P := Tryz.prog) (g := 0) (t := 3) (zero := #[.int .i64 0]) hsh (of_decide_eq_true (by kernel_rfl)) (by kernel_rfl) rfl (by kernel_rfl) (by kernel_rfl) Tryz.underlying3
  have hu := Go.Proofs.utf8Tabs_of_readsT (P := Tryz.prog) (ρ := u8ren) { t5 := Tryz.underlying5, t119 := Tryz.underlying166, t138 := Tryz.underlying252, t139 := Tryz.underlying253 } { n3 := by kernel_rfl, n4 := by kernel_rfl, y3 := by kernel_rfl, y4 := by kernel_rfl, c5 := by kernel_rfl, c119 := by kernel_rfl, c138 := by kernel_rfl } h3 h4
  have h1 : ∀ c, c < 256 → W.cell? ⟨4, c, none⟩ = some (.int .u8 (Lib.firstT c)) := hu.1
  have h2 : ∀ i, i < 16 → W.cell? ⟨5, 2 * i, none⟩ = some (.int .u8 (Lib.accLo i)) ∧ W.cell? ⟨5, 2 * i + 1, none⟩ = some (.int .u8 (Lib.accHi i)) := hu.2
  exact ⟨cell_skip (h1 0 (by decide)), cell_skip (h2 0 (by decide)).1, h1, cell_skip hm, ⟨m, hm⟩, h2⟩
end Go.Proofs.YtlkdmbpbjhjkfaaGreatDoor
namespace Go.Proofs.YtlkdmbpbjhjkfaaGreatDoor
set_option linter.unusedVariables false
set_option linter.unusedSimpArgs false
set_option maxRecDepth 100000
theorem seat_main : Tryz.prog.mainIs = some ((true, "042db8cd397699b23d1f30724be7f7fd46a346a9a8aa6dfad5608fe212b22c42").1, (true, "042db8cd397699b23d1f30724be7f7fd46a346a9a8aa6dfad5608fe212b22c42").2.toList) := by kernel_rfl
theorem seat_looks : true = Tryz.prog.looks [] := by kernel_rfl
end Go.Proofs.YtlkdmbpbjhjkfaaGreatDoor
namespace Go.Proofs.YtlkdmbpbjhjkfaaGreatDoor.pHttpBack
open Go.ChangeShapes Go.WideShapes Go.ChangeAt Go.RowKit Go.Deep
open Go.ChangeMaps (open_string shut_string)
set_option linter.unusedVariables false
theorem own : ownKnob Tryz.prog.godebug = none := by kernel_rfl
theorem laidOut : laidOutB Tryz.prog = true := by kernel_rfl
set_option maxRecDepth 100000 in
theorem lifted (os : Os) (started : os.Started) (H : Type) (enc : TypeId × Value → H) :
    ReturnsInHanded {} Tryz.checked os 9 .any (fun w args => (Rows.httpBackSpec.pre enc Tryz.prog Tryz.f9 Rows.httpBackRow.domain false w args ∧ laidMetH Tryz.prog [("math/bits.deBruijn32tab", Rows.laid_math_bits_deBruijn32tab), ("math/bits.deBruijn64tab", Rows.laid_math_bits_deBruijn64tab), ("internal/strconv.uint64pow10", Rows.laid_internal_strconv_uint64pow10), ("unicode/utf8.acceptRanges", Rows.laid_unicode_utf8_acceptRanges), ("strconv.ErrRange", Rows.laid_strconv_ErrRange), ("strconv.ErrSyntax", Rows.laid_strconv_ErrSyntax), ("unicode/utf8.first", Rows.laid_unicode_utf8_first)] w) ∧ sizedMet enc Tryz.prog Tryz.f9 (OpenSpec.ofChange Rows.httpBackSpec) false w args) (Rows.httpBackSpec.post enc Tryz.prog Tryz.f9 false true false false) := by
  refine returns_listed (C := Tryz.checked) (X := fun w _ => laidMetH Tryz.prog [("math/bits.deBruijn32tab", Rows.laid_math_bits_deBruijn32tab), ("math/bits.deBruijn64tab", Rows.laid_math_bits_deBruijn64tab), ("internal/strconv.uint64pow10", Rows.laid_internal_strconv_uint64pow10), ("unicode/utf8.acceptRanges", Rows.laid_unicode_utf8_acceptRanges), ("strconv.ErrRange", Rows.laid_strconv_ErrRange), ("strconv.ErrSyntax", Rows.laid_strconv_ErrSyntax), ("unicode/utf8.first", Rows.laid_unicode_utf8_first)] w) (fun _ _ _ hh h => h.of_heap hh) own started (by kernel_rfl) Tryz.func9
    (ChangeSpec.witness_shaped (enc := enc) (C := Tryz.checked) (os := os) (X := fun w _ => laidMetH Tryz.prog [("math/bits.deBruijn32tab", Rows.laid_math_bits_deBruijn32tab), ("math/bits.deBruijn64tab", Rows.laid_math_bits_deBruijn64tab), ("internal/strconv.uint64pow10", Rows.laid_internal_strconv_uint64pow10), ("unicode/utf8.acceptRanges", Rows.laid_unicode_utf8_acceptRanges), ("strconv.ErrRange", Rows.laid_strconv_ErrRange), ("strconv.ErrSyntax", Rows.laid_strconv_ErrSyntax), ("unicode/utf8.first", Rows.laid_unicode_utf8_first)] w) false (World.laidAll Tryz.prog os [("math/bits.deBruijn32tab", Rows.laid_math_bits_deBruijn32tab), ("math/bits.deBruijn64tab", Rows.laid_math_bits_deBruijn64tab), ("internal/strconv.uint64pow10", Rows.laid_internal_strconv_uint64pow10), ("unicode/utf8.acceptRanges", Rows.laid_unicode_utf8_acceptRanges), ("strconv.ErrRange", Rows.laid_strconv_ErrRange), ("strconv.ErrSyntax", Rows.laid_strconv_ErrSyntax), ("unicode/utf8.first", Rows.laid_unicode_utf8_first)]) #[.slice none 0 0, .slice none 0 0] 8 (World.laidAll_os _ _ _) (World.shaped_of_ZipB (by kernel_rfl) (by kernel_rfl)) (by kernel_rfl) (by kernel_rfl) (by kernel_rfl) (by rw [MakeChecks.laidMetH_plain _ _ _ (by kernel_rfl)]; exact laidMet_laidAll _ (by kernel_rfl) (by kernel_rfl))) ?_
  intro W base args ds gs before hval0 hW hcnd hsz0 hlaid hsh
  have hlaid' : laidMet Tryz.prog [("math/bits.deBruijn32tab", Rows.laid_math_bits_deBruijn32tab), ("math/bits.deBruijn64tab", Rows.laid_math_bits_deBruijn64tab), ("internal/strconv.uint64pow10", Rows.laid_internal_strconv_uint64pow10), ("unicode/utf8.acceptRanges", Rows.laid_unicode_utf8_acceptRanges), ("strconv.ErrRange", Rows.laid_strconv_ErrRange), ("strconv.ErrSyntax", Rows.laid_strconv_ErrSyntax), ("unicode/utf8.first", Rows.laid_unicode_utf8_first)] W := hlaid
  have hTabs : Tabs W W.heap.size := tabs_of hsh (Go.Lib.laidMet.reads hlaid' (n := "unicode/utf8.first") (d := Rows.laid_unicode_utf8_first) (.tail _ (.tail _ (.tail _ (.tail _ (.tail _ (.tail _ (.head _)))))))) (Go.Lib.laidMet.reads hlaid' (n := "unicode/utf8.acceptRanges") (d := Rows.laid_unicode_utf8_acceptRanges) (.tail _ (.tail _ (.tail _ (.head _)))))
  have hsz : ∀ (j : Nat) t d, Tryz.f9.params.toList[j]? = some t → ds[j]? = some d → ∀ n ∈ d.weights Tryz.prog t, n ≤ 140737488351232 := fun j t d ht hd n hn => by
    have h1 := List.all_eq_true.1 hsz0 n (DataW.weights_mem_each (j := j) (t := t) (d := d) (by rw [List.getElem?_append_left (List.getElem?_eq_some_iff.1 ht).1]; exact ht) (by rw [List.getElem?_append_left (List.getElem?_eq_some_iff.1 hd).1]; exact hd) n hn)
    exact of_decide_eq_true h1
  have hval : ∀ (j : Nat) t v, Tryz.f9.params[j]? = some t → args[j]? = some v → Value.okWide Tryz.prog W .any base t v := hval0
  have hW' := hW
  obtain ⟨p, q, hA0, hV, rfl, hfz, hnd⟩ := hW
  have hA : DataW.TrodAll enc Tryz.prog W 0 (fun _ => true) true Tryz.f9.params.toList args.toList ds p := hA0
  rw [Tryz.params9] at hA hval hsz
  obtain ⟨v0, vs0, d0, ds0, p0, q0, hargs, rfl, rfl, h0, tr0⟩ := trodAll_cons hA
  obtain ⟨v1, vs1, d1, ds1, p1, q1, rfl, rfl, rfl, h1, tr1⟩ := trodAll_cons tr0
  obtain ⟨rfl, rfl, rfl⟩ := trodAll_nil tr1
  obtain rfl : args = #[v0, v1] := by cases args; simp_all
  obtain ⟨rfl, rfl⟩ := trodVars_none hV
  have k0 := h0
  have lt0 : ∀ x ∈ p0, x.block < W.heap.size := by obtain ⟨m, hm⟩ := k0; exact DataW.trod_lt m _ _ _ hm
  obtain ⟨A0, C0, l0, rfl, r0, b0, q0⟩ := arg_slice Tryz.underlying61 (by kernel_rfl) (by decide) 56 (by kernel_rfl) (Reads.struct (T := tyAsk) (Q' := fun x => Rd tyB W W.heap.size [] x.2.1.A x.2.1.C x.2.1.l) (ReadsF.cons 0 1 4 (by kernel_rfl) (Reads.bool Tryz.underlying4) (ReadsF.cons 1 1 22 (by kernel_rfl) (Reads.slice Tryz.underlying22 (by kernel_rfl) (by decide) 1 (by kernel_rfl) (Reads.u8 Tryz.underlying5)) (ReadsF.cons 2 1 9 (by kernel_rfl) (Reads.str Tryz.underlying9) (ReadsF.cons 3 1 4 (by kernel_rfl) (Reads.bool Tryz.underlying4) (ReadsF.nil 4))))) (fun (b : Bool × Vs UInt8 × List UInt8 × Bool × Unit) => (b.1, b.2.1, b.2.2.1, b.2.2.2.1)) Tryz.underlying63 rfl (by kernel_rfl) (fun _ => rfl) (by intro b h; exact h.2.1.1)) (hval 0 61 v0 rfl rfl) h0 (hsz 0 61 d0 rfl rfl)
  have k1 := h1
  have lt1 : ∀ x ∈ p1, x.block < W.heap.size := by obtain ⟨m, hm⟩ := k1; exact DataW.trod_lt m _ _ _ hm
  obtain ⟨A1, C1, l1, rfl, r1, b1, q1⟩ := arg_slice Tryz.underlying55 (by kernel_rfl) (by decide) 8 (by kernel_rfl) (Reads.int Tryz.underlying3) (hval 1 55 v1 rfl rfl) h1 (hsz 1 55 d1 rfl rfl)
  clear hA0 hval0
  refine (law_of (httpback_ok (l := l0) (ns := l1) r0 (fun x hx => q0 x hx) r1 hTabs)).mono fun e W' ⟨he, bel⟩ => ?_
  subst he
  exact ⟨_, rfl, _, _, _, [], _, [], hW', trodAll_mk1 (shut_bool Tryz.underlying4 _), (trodAll_cons_mk (Below.trod laidOut (by kernel_rfl) (of_decide_eq_true (by kernel_rfl)) k0 bel lt0) (trodAll_cons_mk (Below.trod laidOut (by kernel_rfl) (of_decide_eq_true (by kernel_rfl)) k1 bel lt1) trodAll_mk0)), rfl, bel.frame _, fun h => by cases h⟩
theorem jf0 : (Rows.httpBackRow.inPlace == Tryz.prog.inPlace 9) = true := by kernel_rfl
theorem jf1 : (Rows.httpBackRow.unfollowed == Tryz.prog.unfollowed 9) = true := by kernel_rfl
theorem jf2 : (Rows.httpBackRow.recurses == Tryz.prog.recurses 9) = true := by kernel_rfl
theorem jf3 : (Rows.httpBackRow.named == Tryz.prog.varsNamed 9) = true := by kernel_rfl
theorem jall : joinedFacts Tryz.prog 9 Tryz.f9 Rows.httpBackSpec Rows.httpBackRow = true := by
  unfold joinedFacts
  rw [jf0, jf1, jf2, jf3]
  kernel_rfl
theorem over : Rows.httpBackRow.holds Tryz.pinned (OpenSpec.ofChange Rows.httpBackSpec) :=
  OpenClaim.holds_of_wide 9 Tryz.f9 rfl rfl rfl rfl rfl rfl rfl ⟨rfl, rfl, rfl, rfl, rfl⟩ rfl rfl rfl rfl rfl (by kernel_rfl) Tryz.func9 jall
    (of_decide_eq_true (by kernel_rfl)) (by unfold Func.isWrapper; first | (rw [if_pos (by decide +kernel)]; kernel_rfl) | (rw [if_neg (by decide +kernel)]; exact ⟨rfl, rfl⟩))
    (fun os started H enc _ => lifted os started H enc)
theorem pf0 : Rows.httpBackRow.wfByText (OpenSpec.ofChange Rows.httpBackSpec) = true := by kernel_rfl
theorem pf3 : false = Rows.httpBackRow.goesBy Tryz.prog := by kernel_rfl
theorem proved : Rows.HttpBackCardSaid :=
  Claim7.holds_tied_plain_at .later [] [.data, .data, .data, .data, .sentinel, .sentinel, .pinned] true (true, "042db8cd397699b23d1f30724be7f7fd46a346a9a8aa6dfad5608fe212b22c42") true
    over (fun _ h => by cases h) pf0 (fun _ h => by cases h) httpBack_row_tie rfl ⟨rfl, rfl⟩ seat_main rfl
    (fun f fn hf hfn => by
      obtain rfl : f = 9 := Option.some.inj ((show Tryz.prog.funcNamed "ostiary/ostiarylaw14.HttpBack" = some 9 by kernel_rfl).symm.trans hf) |>.symm
      obtain rfl : fn = Tryz.f9 := (Option.some.inj (Tryz.func9.symm.trans hfn)).symm
      exact ⟨seat_looks, fun j t ht => by
        rw [Tryz.params9] at ht
        have hm : t ∈ ([61, 55] : List Nat) := by simpa using Array.mem_of_getElem? ht
        have hall : (([61, 55] : List Nat).all fun u => !Tryz.prog.wantsStandIn u) = true := by kernel_rfl
        exact (show Tryz.prog.wantsStandIn t = false by simpa using List.all_eq_true.1 hall t hm)⟩)
    pf3
end Go.Proofs.YtlkdmbpbjhjkfaaGreatDoor.pHttpBack
