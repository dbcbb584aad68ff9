/- A logic for walks: loops in whose rounds something is put off; the marks of many ranges over functions. -/
import Derived.Test.YtlkdmbpbjhjkfaaGreatDoorLgP
namespace Go.Proofs.YtlkdmbpbjhjkfaaGreatDoor
open Go.RowKit (Below)
set_option linter.unusedVariables false
set_option linter.unusedSimpArgs false

section
variable {X : Pt} {k : List Item} {E : Env} {ds : List Deferred} {H : List Seg}
/-- A loop in whose rounds something is put off. -/
theorem At.loopD {b : Code} {ι : Type} (Ei : ι → Env) (Hi : ι → List Seg) (Di : ι → List Deferred) (I : ι → Prop) (μ : ι → Nat) (x0 : ι) (h0 : I x0) (hE : Sub (Ei x0) E) (hH : Hi x0 = H) (hD : Di x0 = ds)
    (hr : ∀ x, I x → (∀ x', I x' → μ x' < μ x → ∀ E', Sub (Ei x') E' → At X (.inLoop b :: k) E' (Di x') (Hi x')) → At X (.code b :: .inLoop b :: k) (Ei x) (Di x) (Hi x)) : At X (.code (.loop b) :: k) E ds H := by
  have key : ∀ n x, μ x = n → I x → At X (.code b :: .inLoop b :: k) (Ei x) (Di x) (Hi x) := by
    intro n
    induction n using Nat.strongRecOn with
    | _ n ih =>
      intro x hx hI
      refine hr x hI fun x' hI' hlt E' hE' => ?_
      exact fun a w ha S => .step go_inLoop (ih (μ x') (hx ▸ hlt) x' rfl hI' a w (ha.sub hE') S)
  subst hH
  subst hD
  exact fun a w ha S => .step go_loop (key _ x0 rfl h0 a w (ha.sub hE) S)
theorem At.loopD3 {b : Code} {α β γ : Type} (Ei : α → β → γ → Env) (Hi : α → β → γ → List Seg) (Di : α → β → γ → List Deferred) (I : α → β → γ → Prop) (μ : α → β → γ → Nat) (x : α) (y : β) (z : γ) (h0 : I x y z) (hE : Sub (Ei x y z) E) (hH : Hi x y z = H) (hD : Di x y z = ds)
    (hr : ∀ x y z, I x y z → (∀ x' y' z', I x' y' z' → μ x' y' z' < μ x y z → ∀ E', Sub (Ei x' y' z') E' → At X (.inLoop b :: k) E' (Di x' y' z') (Hi x' y' z')) → At X (.code b :: .inLoop b :: k) (Ei x y z) (Di x y z) (Hi x y z)) : At X (.code (.loop b) :: k) E ds H :=
  At.loopD (ι := α × β × γ) (fun p => Ei p.1 p.2.1 p.2.2) (fun p => Hi p.1 p.2.1 p.2.2) (fun p => Di p.1 p.2.1 p.2.2) (fun p => I p.1 p.2.1 p.2.2) (fun p => μ p.1 p.2.1 p.2.2) (x, y, z) h0 hE hH hD
    fun p hI ih => hr p.1 p.2.1 p.2.2 hI fun x' y' z' => ih (x', y', z')
/-- The marks of ranges over functions, and what each gathers: nothing. -/
def colsOf (rs : List Nat) : List Deferred := rs.map fun r => { target := .collected r, args := #[] }
def defsOf (rs : List Nat) : Seg := rs.map fun r => (r, .deferred (some []))
theorem Un.collectAll {m : FrameMode} {rs : List Nat} (hm : (match m with | .run => false | _ => true) = true) : ∀ {H : List Seg} {i : Nat} {pre : Seg}, H[i]? = some (pre ++ defsOf rs) → (∀ s', Un X m E ds (H.set i s')) → Un X m E (colsOf rs ++ ds) H := by
  induction rs with
  | nil =>
    intro H i pre hi h
    have e : H.set i (pre ++ defsOf []) = H := by
      apply List.ext_getElem?
      intro j
      rw [List.getElem?_set]
      split
      · rename_i e
        subst e
        rw [hi]
        simp [(List.getElem?_eq_some_iff.1 hi).1]
      · rfl
    have := h (pre ++ defsOf [])
    rw [e] at this
    exact this
  | cons r rs ih =>
    intro H i pre hi h
    refine Un.collected (i := i) (j := pre.length) (ds0 := []) hm hi (by simp [defsOf]) rfl ?_
    have hlt := (List.getElem?_eq_some_iff.1 hi).1
    refine ih (H := _) (i := i) (pre := pre ++ [(r, .deferred none)]) ?_ (fun s' => ?_)
    · rw [List.getElem?_set_self hlt]
      congr 1
      simp [defsOf]
    · rw [List.set_set]
      exact h s'
theorem Un.collectEnd {m : FrameMode} {rs : List Nat} {H : List Seg} {i : Nat} (hm : (match m with | .run => false | _ => true) = true) (hi : H[i]? = some (defsOf rs)) (h : ∀ s', Un X m E [] (H.set i s')) : Un X m E (colsOf rs) H := by
  have := Un.collectAll (X := X) (E := E) (ds := []) (m := m) (rs := rs) hm (H := H) (i := i) (pre := []) hi h
  rwa [List.append_nil] at this
end
theorem Do.own1 {X : Pt} {E : Env} {H : List Seg} {op : Op} {α : Type} (T : Ty α) {e n : Nat} {l : List α} {cs : Array Value} (hd : Does X E H op (fun v H' => ∃ b, v = .slice (some ⟨b, 0, none⟩) n n ∧ H' = [(b, .cells cs e (0, 0))] :: H)) (hcs : cs = (T.cells l).toArray) (hn : n = l.length) (hle : l.length ≤ 9223372036854775807) :
    Does X E H op (fun v H' => ∃ b s, Own T e (some ⟨b, 0, none⟩) n l s ∧ v = .slice (some ⟨b, 0, none⟩) n n ∧ H' = s :: H) := by
  refine hd.mono ?_
  rintro v H' ⟨b, rfl, rfl⟩
  obtain ⟨s, hs, ho⟩ := own_new T e b l n _ rfl hn hle
  exact ⟨b, s, ho, rfl, by rw [hs, hcs]⟩
section fields
variable {X : Pt} {k : List Item} {E : Env} {ds : List Deferred} {H : List Seg} {ops : Array Oper} {os : List Oper}
  {d : Nat} {ty : TypeId} {pos : String} {after : Array Edge} {g : Option (Nat × Bool)}
theorem Ty.cells_setF {α : Type} {T : Ty α} {M : List α} {m q : Nat} {y u : α} {v : Value} (hm : M[m]? = some y) (hq : q < T.sz) (hu : (T.val u).cells.toList = ((T.val y).cells.toList).set q v) : T.cells (M.set m u) = (T.cells M).set (m * T.sz + q) v := by
  induction M generalizing m with
  | nil => simp at hm
  | cons x M ih =>
    have hl : ∀ x, (T.val x).cells.toList.length = T.sz := fun x => by rw [Array.length_toList, T.ok]
    have hcons : ∀ (x : α) (M : List α), T.cells (x :: M) = (T.val x).cells.toList ++ T.cells M := fun x M => List.flatMap_cons ..
    cases m with
    | zero =>
      simp only [List.getElem?_cons_zero, Option.some.injEq] at hm
      subst hm
      rw [List.set_cons_zero, hcons, hcons, hu, Nat.zero_mul, Nat.zero_add, List.set_append_left _ _ (by rw [hl]; exact hq)]
    | succ m =>
      simp only [List.getElem?_cons_succ] at hm
      rw [List.set_cons_succ, hcons, hcons, ih hm, List.set_append_right _ _ (by rw [hl, Nat.add_mul]; omega), hl]
      congr 2
      rw [Nat.add_mul]; omega
/-- One cell of an element of one's own is written. -/
theorem Do.setField {α : Type} {T : Ty α} {t e : TypeId} {x y : Operand} {A : Option Addr} {C : Nat} {l : List α} {s : Seg} {u z : α} {v : Value} (i j q : Nat) (hsz : sizeN X.P t 1 = true) (hi : H[i]? = some s) (ho : Own T e A C l s) (hj : l[j]? = some z) (hq : q < T.sz) (hv1 : v.cells = #[v]) (hv2 : v.oneCell' = true) (hu : (T.val u).cells.toList = ((T.val z).cells.toList).set q v)
    (hx : ev E x = some (.pointer (some ((eaddr A (j * T.sz)).add q)))) (hy : ev E y = some v) : Does X E H (.store t x y) (fun v H' => ∃ s', Own T e A C (l.set j u) s' ∧ v = undef ∧ H' = H.set i s') :=
  Does.coreU rfl (fun dst ty pos after g ρ w hρ S => by
    have hjl := (List.getElem?_eq_some_iff.1 hj).1
    obtain ⟨r, rfl, hor⟩ := ho
    rcases hor with ⟨rfl, rfl, _⟩ | ⟨gb, pre, post, fr, rfl, rfl, hfo, hc⟩
    · simp at hjl
    · have hblk := (S.at_ hi (j := 0) rfl).1
      have htot : (pre ++ l ++ r ++ post).length * T.sz = pre.length * T.sz + l.length * T.sz + r.length * T.sz + post.length * T.sz := by simp only [List.length_append, Nat.add_mul]
      have hjm : (j + 1) * T.sz ≤ l.length * T.sz := Nat.mul_le_mul_right T.sz (by omega)
      rw [Nat.add_mul, Nat.one_mul] at hjm
      have hM : (pre ++ l ++ r ++ post)[pre.length + j]? = some z := by
        rw [List.append_assoc, List.append_assoc, List.getElem?_append_right (by omega), Nat.add_sub_cancel_left, List.getElem?_append_left hjl]
        exact hj
      have hcs := Ty.cells_setF (T := T) hM hq hu
      have hset : (pre ++ l ++ r ++ post).set (pre.length + j) u = pre ++ l.set j u ++ r ++ post := by
        rw [List.append_assoc, List.append_assoc, List.set_append_right _ _ (by omega), Nat.add_sub_cancel_left, List.set_append_left _ _ hjl]
        simp only [List.append_assoc]
      rw [hset, Nat.add_mul] at hcs
      have hst := run_storeCells_blk X.P gb (pre.length * T.sz + j * T.sz + q) e fr [v] 0 _ w hblk (fun p h1 h2 => hfo p (by
          simp only [List.length_singleton] at h2
          rw [htot]
          omega)) (by
          rw [List.size_toArray, Ty.cells_len, htot]
          simp only [List.length_singleton]
          omega) (by intro c hc; rw [List.mem_singleton] at hc; rw [hc]; exact hv2)
      simp only [Nat.add_zero, List.length_singleton] at hst
      have hcut : (T.cells (pre ++ l ++ r ++ post)).take (pre.length * T.sz + j * T.sz + q) ++ [v] ++ (T.cells (pre ++ l ++ r ++ post)).drop (pre.length * T.sz + j * T.sz + q + 1) = T.cells (pre ++ l.set j u ++ r ++ post) := by
        rw [hcs, List.set_eq_take_append_cons_drop, if_pos (by rw [Ty.cells_len, htot]; omega)]
        simp
      rw [hcut] at hst
      refine ⟨_, _, ?_, S.setRow hi (j := 0) rfl _, [(gb, .cells (T.cells (pre ++ l.set j u ++ r ++ post)).toArray e fr)], ⟨r, by rw [List.length_set], .inr ⟨gb, pre, post, fr, rfl, rfl, ?_, by rw [List.length_set]; exact hc⟩⟩, rfl, rfl⟩
      · have e1 : ((eaddr (some ⟨gb, pre.length * T.sz, none⟩) (j * T.sz)).add q) = ⟨gb, pre.length * T.sz + j * T.sz + q, none⟩ := by
          show (Addr.add (Addr.add ⟨gb, pre.length * T.sz, none⟩ (j * T.sz)) q) = _
          rw [addr_add, addr_add]
        rw [e1] at hx
        simp [execOp, hρ _ _ hx, hρ _ _ hy, Instr.storeAt, Instr.sureAddr, storeVar, sizeN_run hsz, hv1, hst]
      · have : (pre ++ l.set j u ++ r ++ post).length = (pre ++ l ++ r ++ post).length := by simp only [List.length_append, List.length_set]
        rw [this]; exact hfo)
theorem AtL.setField {α : Type} {T : Ty α} {t e : TypeId} {x y : Operand} {A : Option Addr} {C : Nat} {l : List α} {s : Seg} {u z : α} {v : Value} (i j q : Nat) (hsz : sizeN X.P t 1 = true) (hi : H[i]? = some s) (ho : Own T e A C l s) (hj : l[j]? = some z) (hq : q < T.sz) (hv1 : v.cells = #[v]) (hv2 : v.oneCell' = true) (hu : (T.val u).cells.toList = ((T.val z).cells.toList).set q v) (hg : Wd X ops E g)
    (hx : ev E x = some (.pointer (some ((eaddr A (j * T.sz)).add q)))) (hy : ev E y = some v)
    (hk : ∀ s', Own T e A C (l.set j u) s' → AtL X ops os k E ds (H.set i s')) :
    AtL X ops (⟨none, .store t x y, ty, pos, after, g⟩ :: os) k E ds H :=
  AtL.of (Do.setField i j q hsz hi ho hj hq hv1 hv2 hu hx hy) hg rfl fun _ _ ⟨s', h', hv, hH⟩ => by subst hv; subst hH; exact hk s' h'
end fields
end Go.Proofs.YtlkdmbpbjhjkfaaGreatDoor
