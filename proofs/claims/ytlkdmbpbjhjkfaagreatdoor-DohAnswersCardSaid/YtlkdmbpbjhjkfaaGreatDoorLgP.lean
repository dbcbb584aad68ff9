/- A logic for walks: memory of many slices at once; what stands still. -/
import Derived.Test.YtlkdmbpbjhjkfaaGreatDoorLgK
namespace Go.Proofs.YtlkdmbpbjhjkfaaGreatDoor
open Go.RowKit (Below)
set_option linter.unusedVariables false
set_option linter.unusedSimpArgs false

theorem Sep.flat {w0 : World} {base : Nat} {w : World} {H H' : List Seg} (S : Sep w0 base w H) (h : H.flatten.Perm H'.flatten) : Sep w0 base w H' :=
  ⟨S.below, S.le, fun p hp => S.mem p (h.mem_iff.2 hp), (h.map _).nodup_iff.1 S.nodup⟩
section flats
variable {X : Pt} {k : List Item} {E : Env} {ds : List Deferred} {H H' : List Seg} {ops : Array Oper} {os : List Oper}
theorem At.flat (hp : H.flatten.Perm H'.flatten) (h : At X k E ds H') : At X k E ds H := fun a w ha S => h a w ha (S.flat hp)
theorem AtL.flat (hp : H.flatten.Perm H'.flatten) (h : AtL X ops os k E ds H') : AtL X ops os k E ds H := fun is hi a w ha S => h is hi a w ha (S.flat hp)
theorem At.eqH (h : H = H') (hk : At X k E ds H') : At X k E ds H := by subst h; exact hk
theorem AtL.eqH (h : H = H') (hk : AtL X ops os k E ds H') : AtL X ops os k E ds H := by subst h; exact hk
theorem SCalls.flat {P : Program} {f : FuncId} {args : List Value} {w0 : World} {base : Nat} {R : Value → List Seg → Prop} (hp : H.flatten.Perm H'.flatten) (h : SCalls P f args w0 base H' R) : SCalls P f args w0 base H R := fun w S => h w (S.flat hp)
theorem SCalls.flatR {P : Program} {f : FuncId} {args : List Value} {w0 : World} {base : Nat} {R R' : Value → List Seg → Prop} (h : SCalls P f args w0 base H R) (hr : ∀ v H1, R v H1 → ∃ H2, H1.flatten.Perm H2.flatten ∧ R' v H2) : SCalls P f args w0 base H R' :=
  fun w S cs => let ⟨e, w', fr, ⟨v, H1, hv, hR, S'⟩, r⟩ := h w S cs; let ⟨H2, hp, hR'⟩ := hr v H1 hR; ⟨e, w', fr, ⟨v, H2, hv, hR', S'.flat hp⟩, r⟩
end flats
theorem Does.pick {X : Pt} {E : Env} {H H' : List Seg} {op : Op} {R : Value → List Seg → Prop} (is : List Nat) (m : Nat) (hok : pickOk is m = true) (hH : pickSegs H is m = H') (h : Does X E H' op R) : Does X E H op R := by
  intro dst ty pos after g ops i is' k ds a w ho hw ha S
  exact h dst ty pos after g ops i is' k ds a w ho hw ha (hH ▸ S.pick is m hok)
section views
variable {α : Type} {T : Ty α} {w0 : World} {base : Nat} {H H' : List Seg} {A : Option Addr} {C : Nat} {l : List α} {e : TypeId} {s : Seg}
theorem Rd.flat (hp : H.flatten.Perm H'.flatten) (h : Rd T w0 base H' A C l) : Rd T w0 base H A C l :=
  ⟨h.le, h.cap, h.nil, fun hl => let ⟨b, off, hA, hc⟩ := h.cells hl; ⟨b, off, hA, fun w S => hc w (S.flat hp)⟩⟩
theorem Rd.pick (is : List Nat) (m : Nat) (hok : pickOk is m = true) (hH : pickSegs H is m = H') (h : Rd T w0 base H' A C l) : Rd T w0 base H A C l :=
  ⟨h.le, h.cap, h.nil, fun hl => let ⟨b, off, hA, hc⟩ := h.cells hl; ⟨b, off, hA, fun w S => hc w (hH ▸ S.pick is m hok)⟩⟩
end views

/-- The memory of many slices. -/
def segsOf {α : Type} {T : Ty α} {e : TypeId} (ys : List (Sl T e)) : Seg := (ys.map (·.s)).flatten
def Sl.v {α : Type} {T : Ty α} {e : TypeId} (y : Sl T e) : Vs α := ⟨y.A, y.C, y.l⟩
section bundles
variable {α : Type} {T : Ty α} {w0 : World} {base : Nat} {H : List Seg} {e : TypeId}
theorem segs_nil : segsOf ([] : List (Sl T e)) = [] := rfl
theorem segs_cons (y : Sl T e) (ys : List (Sl T e)) : segsOf (y :: ys) = y.s ++ segsOf ys := by simp [segsOf]
theorem segs_app (xs ys : List (Sl T e)) : segsOf (xs ++ ys) = segsOf xs ++ segsOf ys := by simp [segsOf]
theorem flat_snoc (y : Sl T e) (ys : List (Sl T e)) (H : List Seg) : (y.s :: segsOf ys :: H).flatten.Perm (segsOf (ys ++ [y]) :: H).flatten := by
  simp only [List.flatten_cons, segs_app, segs_cons, segs_nil, List.append_nil, ← List.append_assoc]
  exact List.Perm.append_right _ List.perm_append_comm
theorem flat_merge (s t : Seg) (H : List Seg) : (s :: t :: H).flatten.Perm ((s ++ t) :: H).flatten := by simp
theorem flat_app (xs ys : List (Sl T e)) (H : List Seg) : (segsOf xs :: segsOf ys :: H).flatten.Perm (segsOf (xs ++ ys) :: H).flatten := by simp [segs_app]
/-- One of the slices is taken out. -/
theorem flat_out {ys : List (Sl T e)} {i : Nat} {y : Sl T e} (h : ys[i]? = some y) (H : List Seg) : (segsOf ys :: H).flatten.Perm (y.s :: segsOf (ys.eraseIdx i) :: H).flatten := by
  simp only [List.flatten_cons, ← List.append_assoc]
  refine List.Perm.append_right _ ?_
  induction ys generalizing i with
  | nil => simp at h
  | cons z ys ih =>
    cases i with
    | zero =>
      simp only [List.getElem?_cons_zero, Option.some.injEq] at h
      subst h
      simp [segs_cons]
    | succ i =>
      rw [List.getElem?_cons_succ] at h
      rw [List.eraseIdx_cons_succ, segs_cons, segs_cons]
      refine ((ih h).append_left z.s).trans ?_
      rw [← List.append_assoc, ← List.append_assoc]
      exact List.Perm.append_right _ List.perm_append_comm
/-- It is laid back, changed. -/
theorem flat_back {ys : List (Sl T e)} {i : Nat} {y : Sl T e} (hi : i < ys.length) (H : List Seg) : (y.s :: segsOf (ys.eraseIdx i) :: H).flatten.Perm (segsOf (ys.set i y) :: H).flatten := by
  have h := flat_out (ys := ys.set i y) (i := i) (y := y) (by rw [List.getElem?_set]; simp [hi]) H
  rw [List.eraseIdx_set_eq] at h
  exact h.symm
theorem Sl.rd (y : Sl T e) {i : Nat} (hi : H[i]? = some y.s) : Rd T w0 base H y.A y.C y.l := y.own.rd hi
theorem Sl.rdIn {ys : List (Sl T e)} {y : Sl T e} (hy : y ∈ ys) {i : Nat} (hi : H[i]? = some (segsOf ys)) : Rd T w0 base H y.A y.C y.l := by
  obtain ⟨j, hj⟩ := List.mem_iff_getElem?.1 hy
  have hp : H.flatten.Perm (segsOf ys :: H.eraseIdx i).flatten := by
    clear hj hy
    induction H generalizing i with
    | nil => simp at hi
    | cons t H ih =>
      cases i with
      | zero => simp at hi; subst hi; simp
      | succ i =>
        rw [List.getElem?_cons_succ] at hi
        rw [List.eraseIdx_cons_succ]
        simp only [List.flatten_cons] at ih ⊢
        refine ((ih hi).append_left t).trans ?_
        rw [← List.append_assoc, ← List.append_assoc]
        exact List.Perm.append_right _ List.perm_append_comm
  exact Rd.flat (hp.trans (flat_out hj _)) (y.own.rd (i := 0) rfl)
/-- Of what the bundle's slices hold, as elements of a list. -/
theorem Sl.rdV {ys : List (Sl T e)} {l : List (Vs α)} (hl : l = ys.map Sl.v) {i : Nat} (hi : H[i]? = some (segsOf ys)) : ∀ x ∈ l, Rd T w0 base H x.A x.C x.l := fun x hx => by
  subst hl
  obtain ⟨y, hy, rfl⟩ := List.mem_map.1 hx
  exact Sl.rdIn hy hi
end bundles
theorem getD_mem {α : Type} {l : List α} {i : Nat} {d : α} (h : i < l.length) : l.getD i d ∈ l := by
  have : l.getD i d = l[i] := by simp [List.getD, h]
  rw [this]; exact List.getElem_mem h
theorem el_nil {α : Type} {P : α → Prop} : ∀ x ∈ ([] : List α), P x := fun x hx => absurd hx (by simp)
theorem el_cons {α : Type} {P : α → Prop} {y : α} {l : List α} (h : P y) (hl : ∀ x ∈ l, P x) : ∀ x ∈ y :: l, P x := fun x hx => by
  rcases List.mem_cons.1 hx with rfl | hx
  · exact h
  · exact hl x hx
theorem el_app {α : Type} {P : α → Prop} {l m : List α} (h : ∀ x ∈ l, P x) (h2 : ∀ x ∈ m, P x) : ∀ x ∈ l ++ m, P x := fun x hx => by
  rcases List.mem_append.1 hx with hx | hx
  · exact h x hx
  · exact h2 x hx
theorem el_subl {α : Type} {P : α → Prop} {l : List α} {i j : Nat} (h : ∀ x ∈ l, P x) : ∀ x ∈ subl l i j, P x := fun x hx => h x (List.mem_of_mem_drop (List.mem_of_mem_take hx))
section windows
variable {α : Type} {T : Ty α} {e : TypeId} {A : Option Addr} {C : Nat} {l : List α} {s : Seg}
/-- A slice of one's own, seen farther on into its room. -/
theorem Own.grow (h : Own T e A C l s) {j : Nat} (hj : l.length ≤ j) (hm : j ≤ C) : ∃ r', r'.length = j - l.length ∧ Own T e (if C = 0 then A else A.map (·.add (0 * T.sz))) C (l ++ r') s := by
  obtain ⟨r, rfl, hR⟩ := h
  have h1 := hR.cut (i := 0) (j := j) (m := l.length + r.length) (Nat.zero_le _) hm (Nat.le_refl _)
  have e1 : subl (l ++ r) 0 j = l ++ r.take (j - l.length) := by
    rw [subl_to, List.take_append, List.take_of_length_le hj]
  refine ⟨r.take (j - l.length), by simp; omega, subl (l ++ r) j (l.length + r.length), ?_, ?_⟩
  · rw [subl_len (by simp)]; simp; omega
  · rw [← e1]; exact h1
theorem Own.none_nil (h : Own T e A C l s) (hA : A.isNone = true) : l = [] := by
  obtain ⟨r, rfl, h⟩ := h
  rcases h with ⟨_, h, _⟩ | ⟨g, _, _, _, h, _⟩
  · exact h
  · rw [h] at hA; cases hA
/-- copy into a part of a slice of one's own. -/
theorem Do.copyAt {X : Pt} {E : Env} {H : List Seg} {t t2 : TypeId} {x y : Operand} {A' A2 : Option Addr} {C' C2 n' m j : Nat} {news : List α} (i : Nat) (hu : X.P.underlying t = some (.slice e)) (hs : sizeN X.P e T.sz = true) (hi : H[i]? = some s) (ho : Own T e A C l s)
    (hA : A' = (if m = j then A else A.map (·.add (j * T.sz)))) (hn : n' ≤ m - j) (hjn : j + n' ≤ l.length) (hr : Rd T X.w0 X.base H A2 C2 news) (hx : ev E x = some (.slice A' n' C')) (hy : ev E y = some (.slice A2 news.length C2)) :
    Does X E H (.call ⟨.builtin .copy, #[x, y], #[t, t2]⟩) (fun v H' => ∃ s', Own T e A C (l.take j ++ news.take n' ++ l.drop (j + min news.length n')) s' ∧ v = int ((min news.length n' : Nat) : Int) ∧ H' = H.set i s') :=
  Does.core rfl (fun dst ty pos after g ρ w hρ S => by
    have hf := hr.first (P := X.P) S (min news.length n') (Nat.min_le_left _ _)
    have hmin : Nat.min news.length n' = min news.length n' := rfl
    have hlen : (news.take (min news.length n')).length = min news.length n' := by rw [List.length_take]; omega
    have etake : news.take (min news.length n') = news.take n' := by
      rcases Nat.le_total news.length n' with h | h
      · rw [Nat.min_eq_left h, List.take_of_length_le (Nat.le_refl _), List.take_of_length_le h]
      · rw [Nat.min_eq_right h]
    by_cases h0 : min news.length n' = 0
    · have hset : H.set i s = H := by
        apply List.ext_getElem?
        intro k
        rw [List.getElem?_set]
        split
        · rename_i hk; subst hk; rw [hi]; simp [(List.getElem?_eq_some_iff.1 hi).1]
        · rfl
      have e0 : news.take n' = [] := by rw [← etake, h0]; rfl
      refine ⟨_, w, H, ?_, S, s, ?_, rfl, hset.symm⟩
      · rw [h0] at hf
        have ec : T.cells [] = [] := rfl
        simp [ec] at hf
        cases A' <;> simp [execOp, resolve, invoke, builtin, hρ _ _ hx, hρ _ _ hy, Builtin.copy_, run_underlying hu, sizeN_run hs, Builtin.lenOf, hmin, h0, hf, goInt, storeCells_nil, int, ec]
      · rw [e0, h0, List.append_nil, Nat.add_zero, List.take_append_drop]; exact ho
    · cases A with
      | none =>
        obtain ⟨r, _, h⟩ := ho
        rcases h with ⟨_, h1, _, h2⟩ | ⟨_, _, _, _, h, _⟩
        · subst h1; simp at hjn; omega
        · cases h
      | some a =>
        have hA2 : A' = some (a.add (j * T.sz)) := by rw [hA, if_neg (by omega)]; rfl
        subst hA2
        obtain ⟨r, rfl, hor⟩ := ho
        obtain ⟨s', w', hst, ho', S'⟩ := hor.over (P := X.P) S hi rfl j (news.take (min news.length n')) (by rw [hlen]; omega)
        rw [hlen, etake] at ho'
        refine ⟨_, w', _, ?_, S', s', ⟨r, ?_, ho'⟩, rfl, rfl⟩
        · simp [execOp, resolve, invoke, builtin, hρ _ _ hx, hρ _ _ hy, Builtin.copy_, run_underlying hu, sizeN_run hs, Builtin.lenOf, hmin, hf, hst, goInt]
        · simp only [List.length_append, List.length_take, List.length_drop]; omega)
end windows
section loops
variable {X : Pt} {k : List Item} {E : Env} {ds : List Deferred} {H : List Seg}
theorem At.loop7 {b : Code} {α β γ δ ε ζ η : Type} (Ei : α → β → γ → δ → ε → ζ → η → Env) (Hi : α → β → γ → δ → ε → ζ → η → List Seg) (I : α → β → γ → δ → ε → ζ → η → Prop) (μ : α → β → γ → δ → ε → ζ → η → Nat) (x : α) (y : β) (z : γ) (u : δ) (v : ε) (p : ζ) (q : η) (h0 : I x y z u v p q) (hE : Sub (Ei x y z u v p q) E) (hH : Hi x y z u v p q = H)
    (h : ∀ x y z u v p q, I x y z u v p q → (∀ x' y' z' u' v' p' q', I x' y' z' u' v' p' q' → μ x' y' z' u' v' p' q' < μ x y z u v p q → ∀ E', Sub (Ei x' y' z' u' v' p' q') E' → At X (.inLoop b :: k) E' ds (Hi x' y' z' u' v' p' q')) → At X (.code b :: .inLoop b :: k) (Ei x y z u v p q) ds (Hi x y z u v p q)) : At X (.code (.loop b) :: k) E ds H :=
  At.loop (ι := α × β × γ × δ × ε × ζ × η) (fun t => Ei t.1 t.2.1 t.2.2.1 t.2.2.2.1 t.2.2.2.2.1 t.2.2.2.2.2.1 t.2.2.2.2.2.2) (fun t => Hi t.1 t.2.1 t.2.2.1 t.2.2.2.1 t.2.2.2.2.1 t.2.2.2.2.2.1 t.2.2.2.2.2.2) (fun t => I t.1 t.2.1 t.2.2.1 t.2.2.2.1 t.2.2.2.2.1 t.2.2.2.2.2.1 t.2.2.2.2.2.2) (fun t => μ t.1 t.2.1 t.2.2.1 t.2.2.2.1 t.2.2.2.2.1 t.2.2.2.2.2.1 t.2.2.2.2.2.2) (x, y, z, u, v, p, q) h0 hE hH
    fun t ht ih => h _ _ _ _ _ _ _ ht fun x' y' z' u' v' p' q' hi hm => ih (x', y', z', u', v', p', q') hi hm
end loops
end Go.Proofs.YtlkdmbpbjhjkfaaGreatDoor
