/- A logic for walks: slices that grow, are copied, are cut; bytes and strings. -/
import Derived.Test.YtlkdmbpbjhjkfaaGreatDoorLgD
import Derived.Laws.Append
import Derived.Laws.IdiomStrings
import Derived.Laws.BytesArg
import Derived.Laws.MakeOwn
namespace Go.Proofs.YtlkdmbpbjhjkfaaGreatDoor
open Go.RowKit (Below)
set_option linter.unusedVariables false
set_option linter.unusedSimpArgs false

section ty
variable {α : Type} {T : Ty α}
theorem Ty.cells_drop (l : List α) (i : Nat) (hi : i ≤ l.length) : T.cells (l.drop i) = (T.cells l).drop (i * T.sz) := by
  have h : T.cells l = T.cells (l.take i) ++ T.cells (l.drop i) := by rw [← Ty.cells_app, List.take_append_drop]
  have hl : (T.cells (l.take i)).length = i * T.sz := by rw [Ty.cells_len, List.length_take, Nat.min_eq_left hi]
  rw [h, ← hl, List.drop_left]
theorem Ty.cells_take (l : List α) (i : Nat) (hi : i ≤ l.length) : T.cells (l.take i) = (T.cells l).take (i * T.sz) := by
  have h : T.cells l = T.cells (l.take i) ++ T.cells (l.drop i) := by rw [← Ty.cells_app, List.take_append_drop]
  have hl : (T.cells (l.take i)).length = i * T.sz := by rw [Ty.cells_len, List.length_take, Nat.min_eq_left hi]
  rw [h, ← hl, List.take_left]
theorem Ty.cells_subl (l : List α) (i j : Nat) (hij : i ≤ j) (hj : j ≤ l.length) : T.cells (subl l i j) = ((T.cells l).drop (i * T.sz)).take ((j - i) * T.sz) := by
  unfold subl
  rw [Ty.cells_take _ _ (by rw [List.length_drop]; omega), Ty.cells_drop _ _ (by omega)]
theorem Ty.cells_rep (n : Nat) (z : α) : T.cells (List.replicate n z) = (List.replicate n (T.val z).cells.toList).flatten := by
  simp [Ty.cells, List.flatMap_replicate]
end ty
theorem subl_nil {α : Type} (l : List α) (i : Nat) : subl l i i = [] := by simp [subl]
theorem subl_all {α : Type} (l : List α) : subl l 0 l.length = l := by simp [subl]
theorem subl_to {α : Type} (l : List α) (j : Nat) : subl l 0 j = l.take j := by simp [subl]
theorem subl_from {α : Type} (l : List α) (i : Nat) : subl l i l.length = l.drop i := by
  unfold subl
  exact List.take_of_length_le (by rw [List.length_drop]; exact Nat.le_refl _)

section bounds
variable {P : Program} {E : Env} {ρ : Operand → Value}
theorem bounds_run (hρ : ∀ x v, ev E x = some v → ρ x = v) {lo hi mx : Option Operand} {n c i j m : Nat} (isS : Bool) (h1 : evBound E lo 0 i) (h2 : evBound E hi n j) (h3 : evBound E mx c m) (hmx : mx.isSome = true → hi.isSome = true) (hij : i ≤ j) (hjm : j ≤ m) (hmc : m ≤ c) (w : World) :
    (Instr.sliceBounds isS n c (lo.map ρ) (hi.map ρ) (mx.map ρ)).run P w = .ok (i, j, m) w := by
  unfold Instr.sliceBounds
  cases mx with
  | none =>
    cases h3
    cases lo with
    | none =>
      cases h1
      cases hi with
      | none => cases h2; simp
      | some y =>
        obtain ⟨k2, z2, e2, rfl⟩ := h2
        simp [hρ _ _ e2, Instr.sliceBound, asIntOf, hjm]
    | some x1 =>
      obtain ⟨k1, z1, e1, rfl⟩ := h1
      cases hi with
      | none => cases h2; simp [hρ _ _ e1, Instr.sliceBound, asIntOf, hij]
      | some y =>
        obtain ⟨k2, z2, e2, rfl⟩ := h2
        simp [hρ _ _ e1, hρ _ _ e2, Instr.sliceBound, asIntOf, hij, hjm]
  | some q =>
    obtain ⟨k3, z3, e3, rfl⟩ := h3
    cases hi with
    | none => simp at hmx
    | some y =>
      obtain ⟨k2, z2, e2, rfl⟩ := h2
      cases lo with
      | none =>
        cases h1
        simp [hρ _ _ e2, hρ _ _ e3, Instr.sliceBound, asIntOf, hjm, hmc]
      | some x1 =>
        obtain ⟨k1, z1, e1, rfl⟩ := h1
        simp [hρ _ _ e1, hρ _ _ e2, hρ _ _ e3, Instr.sliceBound, asIntOf, hjm, hmc, hij]
end bounds

/-- What is cut out of a list that is read. -/
theorem Rd.cut {α : Type} {T : Ty α} {w0 : World} {base : Nat} {H : List Seg} {A : Option Addr} {C : Nat} {l : List α} (h : Rd T w0 base H A C l) {i j m : Nat} (hij : i ≤ j) (hj : j ≤ l.length) (hjm : j ≤ m) (hm : m ≤ C) :
    Rd T w0 base H (if m = i then A else A.map (·.add (i * T.sz))) (m - i) (subl l i j) := by
  refine ⟨by rw [subl_len hj]; omega, by have := h.cap; omega, ?_, ?_⟩
  · intro e
    split at e
    · omega
    · have : A = none := by cases A <;> simp_all
      have := h.nil this
      omega
  · intro hne
    have hlt : i < j := by
      rcases Nat.lt_or_ge i j with h | h
      · exact h
      · have : i = j := by omega
        subst this
        exact absurd (subl_nil l i) hne
    obtain ⟨b, off, rfl, hc⟩ := h.cells (by rintro rfl; simp at hj; omega)
    rw [if_neg (by omega)]
    refine ⟨b, off + i * T.sz, by simp [addr_add], fun w S q u hu => ?_⟩
    rw [Ty.cells_subl _ _ _ hij hj, List.getElem?_take] at hu
    split at hu
    · rw [List.getElem?_drop] at hu
      have := hc w S _ u hu
      rw [← Nat.add_assoc] at this
      exact this
    · cases hu
/-- What is cut out of a slice of one's own. -/
theorem OwnR.cut {α : Type} {T : Ty α} {e : TypeId} {A : Option Addr} {l r : List α} {s : Seg} (h : OwnR T e A l r s) {i j m : Nat} (hij : i ≤ j) (hjm : j ≤ m) (hm : m ≤ l.length + r.length) :
    OwnR T e (if m = i then A else A.map (·.add (i * T.sz))) (subl (l ++ r) i j) (subl (l ++ r) j m) s := by
  rcases h with ⟨rfl, rfl, rfl, rfl⟩ | ⟨g, pre, post, fr, rfl, rfl, hf, hc⟩
  · left
    simp [subl]
  · right
    split
    · rename_i hmi
      have : j = i := by omega
      subst this; subst hmi
      refine ⟨g, pre, l ++ r ++ post, fr, rfl, ?_, ?_, by simp [subl]⟩
      · simp [subl]
      · simpa [subl] using hf
    · have e1 : l ++ r = (l ++ r).take i ++ subl (l ++ r) i j ++ subl (l ++ r) j m ++ (l ++ r).drop m := by
        unfold subl
        conv => lhs; rw [← List.take_append_drop i (l ++ r), ← List.take_append_drop (j - i) ((l ++ r).drop i), List.drop_drop, show i + (j - i) = j from by omega]
        conv => lhs; rw [← List.take_append_drop (m - j) ((l ++ r).drop j), List.drop_drop, show j + (m - j) = m from by omega]
        simp only [List.append_assoc]
      have e2 : pre ++ l ++ r ++ post = (pre ++ (l ++ r).take i) ++ subl (l ++ r) i j ++ subl (l ++ r) j m ++ ((l ++ r).drop m ++ post) := by
        rw [List.append_assoc pre l r]
        conv => lhs; rw [e1]
        simp only [List.append_assoc]
      refine ⟨g, pre ++ (l ++ r).take i, (l ++ r).drop m ++ post, fr, ?_, ?_, ?_, ?_⟩
      · simp only [Option.map_some, addr_add]
        rw [List.length_append, List.length_take, Nat.min_eq_left (by rw [List.length_append]; omega), Nat.add_mul]
      · rw [e2]
      · rw [e2] at hf; exact hf
      · rw [subl_len (by rw [List.length_append]; omega), subl_len (by rw [List.length_append]; omega)]
        omega
theorem Own.cut {α : Type} {T : Ty α} {e : TypeId} {A : Option Addr} {C : Nat} {l : List α} {s : Seg} (h : Own T e A C l s) {i j m : Nat} (hij : i ≤ j) (hj : j ≤ l.length) (hjm : j ≤ m) (hm : m ≤ C) :
    Own T e (if m = i then A else A.map (·.add (i * T.sz))) (m - i) (subl l i j) s := by
  obtain ⟨r, rfl, h⟩ := h
  have := h.cut hij hjm hm
  have e1 : subl (l ++ r) i j = subl l i j := by
    unfold subl
    rw [List.drop_append_of_le_length (by omega), List.take_append_of_le_length (by rw [List.length_drop]; omega)]
  rw [e1] at this
  refine ⟨_, ?_, this⟩
  rw [subl_len hj, subl_len (by rw [List.length_append]; omega)]
  omega

section
variable {X : Pt} {k : List Item} {E : Env} {ds : List Deferred} {H : List Seg} {ops : Array Oper} {os : List Oper}
  {d : Nat} {ty : TypeId} {pos : String} {after : Array Edge} {g : Option (Nat × Bool)}
section cuts
variable {α : Type} {T : Ty α} {xt e : TypeId} {x : Operand} {lo hi mx : Option Operand} {A : Option Addr} {C : Nat} {l : List α}
theorem slice_run {d : Option Tmp} {n : Nat} {i j m sz : Nat} (h1 : evBound E lo 0 i) (h2 : evBound E hi n j) (h3 : evBound E mx C m) (hmx : mx.isSome = true → hi.isSome = true) (hij : i ≤ j) (hjm : j ≤ m) (hm : m ≤ C)
    (hu : X.P.underlying xt = some (.slice e)) (hs : sizeN X.P e sz = true) (hx : ev E x = some (.slice A n C)) (ρ : Operand → Value) (w : World) (hρ : ∀ x v, ev E x = some v → ρ x = v) :
    (execOp ρ ⟨d, .slice xt x lo hi mx, ty, pos, after, g⟩).run X.P w = .ok (.value (.slice (if m = i then A else A.map (·.add (i * sz))) (j - i) (m - i))) w := by
  have hb := bounds_run (P := X.P) hρ true h1 h2 h3 hmx hij hjm hm w
  simp [execOp, hρ _ _ hx, Instr.sliceAt, Instr.slice, run_underlying hu, hb, sizeN_run hs]
/-- A part of a list that is read, whatever stands ahead in memory. -/
theorem Do.sliceR (q i j m : Nat) (hr : Rd T X.w0 X.base (H.drop q) A C l) (h1 : evBound E lo 0 i) (h2 : evBound E hi l.length j) (h3 : evBound E mx C m) (hmx : mx.isSome = true → hi.isSome = true) (hij : i ≤ j) (hj : j ≤ l.length) (hjm : j ≤ m) (hm : m ≤ C) (hu : X.P.underlying xt = some (.slice e)) (hs : sizeN X.P e T.sz = true) (hx : ev E x = some (.slice A l.length C)) : Does X E H (.slice xt x lo hi mx) (fun v H' => ∃ A' C', Rd T X.w0 X.base (H.drop q) A' C' (subl l i j) ∧ v = .slice A' (subl l i j).length C' ∧ H' = H) :=
  Does.core rfl (fun dst ty pos after g ρ w hρ S => ⟨_, w, H, slice_run (d := dst) h1 h2 h3 hmx hij hjm hm hu hs hx ρ w hρ, S, _, _, hr.cut hij hj hjm hm, by rw [subl_len hj], rfl⟩)
theorem AtL.sliceR (q i j m : Nat) (hr : Rd T X.w0 X.base (H.drop q) A C l) (h1 : evBound E lo 0 i) (h2 : evBound E hi l.length j) (h3 : evBound E mx C m) (hmx : mx.isSome = true → hi.isSome = true) (hij : i ≤ j) (hj : j ≤ l.length) (hjm : j ≤ m) (hm : m ≤ C)
    (hu : X.P.underlying xt = some (.slice e)) (hs : sizeN X.P e T.sz = true) (hg : Wd X ops E g) (hd : Nat.blt d X.n = true) (hx : ev E x = some (.slice A l.length C))
    (hk : ∀ A' C', Rd T X.w0 X.base (H.drop q) A' C' (subl l i j) → AtL X ops os k ((d, .slice A' (subl l i j).length C') :: E) ds H) :
    AtL X ops (⟨some d, .slice xt x lo hi mx, ty, pos, after, g⟩ :: os) k E ds H :=
  AtL.of (Do.sliceR q i j m hr h1 h2 h3 hmx hij hj hjm hm hu hs hx) hg hd fun _ _ ⟨A', C', h', hv, hH⟩ => by subst hv; subst hH; exact hk A' C' h'
/-- A part of a slice of one's own. -/
theorem Do.sliceO {s : Seg} (i j m : Nat) (hr : Own T e A C l s) (h1 : evBound E lo 0 i) (h2 : evBound E hi l.length j) (h3 : evBound E mx C m) (hmx : mx.isSome = true → hi.isSome = true) (hij : i ≤ j) (hj : j ≤ l.length) (hjm : j ≤ m) (hm : m ≤ C) (hu : X.P.underlying xt = some (.slice e)) (hs : sizeN X.P e T.sz = true) (hx : ev E x = some (.slice A l.length C)) : Does X E H (.slice xt x lo hi mx) (fun v H' => ∃ A' C', Own T e A' C' (subl l i j) s ∧ v = .slice A' (subl l i j).length C' ∧ H' = H) :=
  Does.core rfl (fun dst ty pos after g ρ w hρ S => ⟨_, w, H, slice_run (d := dst) h1 h2 h3 hmx hij hjm hm hu hs hx ρ w hρ, S, _, _, hr.cut hij hj hjm hm, by rw [subl_len hj], rfl⟩)
theorem AtL.sliceO {s : Seg} (i j m : Nat) (hr : Own T e A C l s) (h1 : evBound E lo 0 i) (h2 : evBound E hi l.length j) (h3 : evBound E mx C m) (hmx : mx.isSome = true → hi.isSome = true) (hij : i ≤ j) (hj : j ≤ l.length) (hjm : j ≤ m) (hm : m ≤ C)
    (hu : X.P.underlying xt = some (.slice e)) (hs : sizeN X.P e T.sz = true) (hg : Wd X ops E g) (hd : Nat.blt d X.n = true) (hx : ev E x = some (.slice A l.length C))
    (hk : ∀ A' C', Own T e A' C' (subl l i j) s → AtL X ops os k ((d, .slice A' (subl l i j).length C') :: E) ds H) :
    AtL X ops (⟨some d, .slice xt x lo hi mx, ty, pos, after, g⟩ :: os) k E ds H :=
  AtL.of (Do.sliceO i j m hr h1 h2 h3 hmx hij hj hjm hm hu hs hx) hg hd fun _ _ ⟨A', C', h', hv, hH⟩ => by subst hv; subst hH; exact hk A' C' h'
/-- A part of a slice of one's own, its room too. -/
theorem Do.sliceX {s : Seg} {r : List α} (i j m : Nat) (hr : OwnR T e A l r s) (hC : C = l.length + r.length) (h1 : evBound E lo 0 i) (h2 : evBound E hi l.length j) (h3 : evBound E mx C m) (hmx : mx.isSome = true → hi.isSome = true) (hij : i ≤ j) (hjm : j ≤ m) (hm : m ≤ C) (hu : X.P.underlying xt = some (.slice e)) (hs : sizeN X.P e T.sz = true) (hx : ev E x = some (.slice A l.length C)) : Does X E H (.slice xt x lo hi mx) (fun v H' => ∃ A', OwnR T e A' (subl (l ++ r) i j) (subl (l ++ r) j m) s ∧ v = .slice A' (subl (l ++ r) i j).length (m - i) ∧ H' = H) :=
  by
    subst hC
    exact Does.core rfl (fun dst ty pos after g ρ w hρ S => ⟨_, w, H, slice_run (d := dst) h1 h2 h3 hmx hij hjm hm hu hs hx ρ w hρ, S, _, hr.cut hij hjm hm, by rw [subl_len (by rw [List.length_append]; omega)], rfl⟩)
theorem AtL.sliceX {s : Seg} {r : List α} (i j m : Nat) (hr : OwnR T e A l r s) (hC : C = l.length + r.length) (h1 : evBound E lo 0 i) (h2 : evBound E hi l.length j) (h3 : evBound E mx C m) (hmx : mx.isSome = true → hi.isSome = true) (hij : i ≤ j) (hjm : j ≤ m) (hm : m ≤ C)
    (hu : X.P.underlying xt = some (.slice e)) (hs : sizeN X.P e T.sz = true) (hg : Wd X ops E g) (hd : Nat.blt d X.n = true) (hx : ev E x = some (.slice A l.length C))
    (hk : ∀ A', OwnR T e A' (subl (l ++ r) i j) (subl (l ++ r) j m) s → AtL X ops os k ((d, .slice A' (subl (l ++ r) i j).length (m - i)) :: E) ds H) :
    AtL X ops (⟨some d, .slice xt x lo hi mx, ty, pos, after, g⟩ :: os) k E ds H :=
  AtL.of (Do.sliceX i j m hr hC h1 h2 h3 hmx hij hjm hm hu hs hx) hg hd fun _ _ ⟨A', h', hv, hH⟩ => by subst hv; subst hH; exact hk A' h'
end cuts

/-- The cells of a list that is read. -/
theorem Rd.first {α : Type} {T : Ty α} {P : Program} {w0 : World} {base : Nat} {A : Option Addr} {C : Nat} {l : List α} (h : Rd T w0 base H A C l) {w : World} (S : Sep w0 base w H) (n : Nat) (hn : n ≤ l.length) :
    (Builtin.firstCells T.sz n (.slice A l.length C)).run P w = .ok (T.cells (l.take n)).toArray w := by
  cases A with
  | none =>
    have hC := h.nil rfl
    have hl := h.le
    have : l = [] := List.eq_nil_of_length_eq_zero (by omega)
    subst this
    simp [Builtin.firstCells, Ty.cells]
  | some a =>
    by_cases h0 : l = []
    · subst h0
      have : n = 0 := by simpa using hn
      subst this
      simp [Builtin.firstCells, Ty.cells, loadCells, loadCellsFrom]
    · obtain ⟨b, off, ha, hc⟩ := h.cells h0
      cases ha
      have hl : (T.cells (l.take n)).length = n * T.sz := by rw [Ty.cells_len, List.length_take, Nat.min_eq_left hn]
      have := run_loadCells_list (P := P) w ⟨b, off, none⟩ (T.cells (l.take n)) (fun j v hj => by
        rw [addr_add]
        refine hc w S j v ?_
        rw [Ty.cells_take _ _ hn, List.getElem?_take] at hj
        split at hj
        · exact hj
        · cases hj)
      rw [hl] at this
      simp [Builtin.firstCells, this]
/-- What is known of an element type. -/
structure ElemOk {α : Type} (P : Program) (t e : TypeId) (T : Ty α) (z : α) (by_ : Nat) : Prop where
  u : P.underlying t = some (.slice e)
  info : ∃ i, P.info? e = some i ∧ i.size = T.sz ∧ i.bytes = by_ ∧ i.zero = some (T.val z)
  pos : 0 < by_
def elemB (P : Program) (e sz by_ : Nat) : Bool := match P.info? e with
  | some i => Nat.beq i.size sz && Nat.beq i.bytes by_
  | none => false
theorem ElemOk.of {α : Type} {P : Program} {t e : TypeId} {T : Ty α} {z : α} {by_ : Nat} (hu : P.underlying t = some (.slice e)) (h : elemB P e T.sz by_ = true) (hz : zeroV P e = some (T.val z)) (hp : Nat.blt 0 by_ = true) : ElemOk P t e T z by_ := by
  refine ⟨hu, ?_, blt_lt hp⟩
  unfold elemB at h
  unfold zeroV at hz
  cases hi : P.info? e with
  | none => rw [hi] at h; cases h
  | some i =>
    rw [hi] at h hz
    simp only [Bool.and_eq_true] at h
    exact ⟨i, rfl, Nat.eq_of_beq_eq_true h.1, Nat.eq_of_beq_eq_true h.2, hz⟩
theorem zeroCells_rep (z : Array Value) (n : Nat) : Builtin.zeroCells z n = ((List.replicate n z.toList).flatten).toArray := by
  unfold Builtin.zeroCells
  exact range_rep z n
/-- An operation that replaces a block of one's own by another one. -/
theorem Sep.swap {w0 : World} {base : Nat} {w : World} {i : Nat} {s s' : Seg} (S : Sep w0 base w (s' :: H)) (hi : H[i]? = some s) : Sep w0 base w (H.set i s') := by
  obtain ⟨h1, h2⟩ := flat_nodup_iff.1 S.nodup
  rw [List.pairwise_cons] at h2
  obtain ⟨h2, h3⟩ := h2
  refine ⟨S.below, S.le, fun p hp => S.mem p ?_, flat_nodup_iff.2 ⟨fun t ht => h1 t ?_, ?_⟩⟩
  · rcases flatten_set_mem hp with h | ⟨j, _, r, hr, hp⟩
    · simp [h]
    · rw [List.flatten_cons, List.mem_append]
      exact .inr (List.mem_flatten.2 ⟨r, List.mem_iff_getElem?.2 ⟨j, hr⟩, hp⟩)
  · rcases List.mem_or_eq_of_mem_set ht with h | h
    · simp [h]
    · simp [h]
  · rw [List.pairwise_iff_getElem] at h3 ⊢
    intro a b ha hb hab x hx y hy
    simp only [List.length_set] at ha hb
    rw [List.getElem_set] at hx hy
    split at hx
    · rename_i e1
      rw [if_neg (by omega)] at hy
      exact h2 _ (List.getElem_mem hb) x hx y hy
    · split at hy
      · intro exy
        exact h2 _ (List.getElem_mem ha) y hy x hx exy.symm
      · exact h3 a b ha hb hab x hx y hy
theorem tyB_cells (l : List UInt8) : tyB.cells l = l.map byt := by
  induction l with
  | nil => rfl
  | cons a l ih =>
    have : tyB.cells (a :: l) = byt a :: tyB.cells l := rfl
    rw [this, ih]; rfl
/-- An append to a slice of one's own. -/
theorem append_run {α : Type} {T : Ty α} {P : Program} {w0 : World} {base : Nat} {w : World} (S : Sep w0 base w H) {t t2 e : TypeId} {ty : TypeId} {z : α} {by_ : Nat} (hT : ElemOk P t e T z by_) (h2 : P.underlying t2 = some .string ∨ ∃ e2, P.underlying t2 = some (.slice e2))
    {A : Option Addr} {C : Nat} {l news : List α} {s : Seg} {i : Nat} (hi : H[i]? = some s) (ho : Own T e A C l s) {x : Value} (hl : ∀ w, (Builtin.lenOf x).run P w = .ok news.length w) (hf : ∀ w, Sep w0 base w H → (Builtin.firstCells T.sz news.length x).run P w = .ok (T.cells news).toArray w)
    (hb : (l.length + news.length) * by_ ≤ 140737488355328) :
    ∃ A' C' s' w', (Builtin.append_ #[t, t2] ty #[.slice A l.length C, x]).run P w = .ok (.slice A' (l ++ news).length C') w' ∧ Own T e A' C' (l ++ news) s' ∧ Sep w0 base w' (H.set i s') := by
  obtain ⟨io, hio, hsz, hby, hz⟩ := hT.info
  have hpos := hT.pos
  have hlen : l.length + news.length ≤ 140737488355328 := Nat.le_trans (Nat.le_mul_of_pos_right _ hpos) hb
  have hrd : Rd T w0 base H A C l := ho.rd hi
  by_cases hroom : l.length + news.length ≤ C
  · obtain ⟨r, rfl, h⟩ := ho
    rcases h with ⟨rfl, rfl, rfl, rfl⟩ | ⟨gb, pre, post, fr, rfl, rfl, hfo, hc⟩
    · have hn : news = [] := List.eq_nil_of_length_eq_zero (by simpa using hroom)
      subst hn
      refine ⟨none, 0, [], w, ?_, Own.nil T e, ?_⟩
      · have h0 := hl w
        have h1 := hf w S
        simp at h0 h1
        rcases h2 with h2 | ⟨e2, h2⟩ <;> simp [Builtin.append_, run_underlying hT.u, run_underlying h2, sizeOf, typeInfo, hio, hsz, h0, h1]
      · have : H.set i [] = H := by
          apply List.ext_getElem?
          intro j
          rw [List.getElem?_set]
          split
          · rename_i hj; subst hj; rw [hi]; simp [(List.getElem?_eq_some_iff.1 hi).1]
          · rfl
        rw [this]; exact S
    · have hrn : news.length ≤ r.length := by omega
      have hblk := (S.at_ hi (j := 0) rfl).1
      have hst := run_storeCells_blk P gb (pre.length * T.sz + l.length * T.sz) e fr (T.cells news) 0 _ w hblk (fun j h1 h2 => hfo j (by
          rw [Ty.cells_len] at h2
          simp only [List.length_append]
          have : (pre.length + l.length + r.length + post.length) * T.sz = pre.length * T.sz + l.length * T.sz + r.length * T.sz + post.length * T.sz := by simp only [Nat.add_mul]
          rw [this]
          have := Nat.mul_le_mul_right T.sz hrn
          omega)) (by
          simp only [List.size_toArray, Ty.cells_len, List.length_append, Nat.add_mul]
          have := Nat.mul_le_mul_right T.sz hrn
          omega) Ty.cells_plain
      have ecut : ((T.cells (pre ++ l ++ r ++ post)).take (pre.length * T.sz + l.length * T.sz) ++ T.cells news ++ (T.cells (pre ++ l ++ r ++ post)).drop (pre.length * T.sz + l.length * T.sz + (T.cells news).length)) = T.cells (pre ++ (l ++ news) ++ r.drop news.length ++ post) := by
        have h1 : pre.length * T.sz + l.length * T.sz = (pre ++ l).length * T.sz := by rw [List.length_append, Nat.add_mul]
        have h2 : (pre ++ l).length * T.sz + (T.cells news).length = ((pre ++ l).length + news.length) * T.sz := by rw [Ty.cells_len, Nat.add_mul]
        rw [h1, h2, ← Ty.cells_take _ _ (by simp only [List.length_append]; omega), ← Ty.cells_drop _ _ (by simp only [List.length_append] at hrn ⊢; omega), ← Ty.cells_app, ← Ty.cells_app]
        congr 1
        rw [List.append_assoc (pre ++ l) r post, List.take_left, List.drop_append, List.drop_eq_nil_of_le (by omega), List.nil_append, Nat.add_sub_cancel_left]
        rw [List.drop_append_of_le_length hrn]
        simp only [List.append_assoc]
      refine ⟨some ⟨gb, pre.length * T.sz, none⟩, l.length + r.length, [(gb, .cells (T.cells (pre ++ (l ++ news) ++ r.drop news.length ++ post)).toArray e fr)], _, ?_, ⟨r.drop news.length, by simp only [List.length_append, List.length_drop]; omega, .inr ⟨gb, pre, post, fr, rfl, rfl, ?_, by simp only [List.length_append, List.length_drop]; omega⟩⟩, S.setRow hi (j := 0) rfl _⟩
      · have h0 := hl w
        have h1 := hf w S
        simp only [Nat.add_zero] at hst
        rw [ecut] at hst
        have hst' : (storeCells ⟨gb, pre.length * T.sz + l.length * T.sz, none⟩ (T.cells news)).run P w = _ := hst
        rcases h2 with h2 | ⟨e2, h2⟩ <;> simp [Builtin.append_, run_underlying hT.u, run_underlying h2, sizeOf, typeInfo, hio, hsz, h0, h1, hrn, addr_add, hst']
      · have : (pre ++ (l ++ news) ++ r.drop news.length ++ post).length = (pre ++ l ++ r ++ post).length := by simp only [List.length_append, List.length_drop]; omega
        rw [this]; exact hfo
  · have hneed : C < l.length + news.length := by omega
    have hfits := growslice_fits (bytes := by_) hneed hb
    have hge := grownCap_ge w (l.length + news.length) C e
    have hcm : grownCap w (l.length + news.length) C e ≤ maxLen := grownCap_le_maxLen w (l.length + news.length) C e (by simp only [maxLen]; omega)
    have Sd : Sep w0 base w.drew H := S.drawn _
    have h0 := hl w
    have h1 := hf w.drew Sd
    have h3 := hrd.first (P := P) Sd l.length (Nat.le_refl _)
    rw [List.take_length] at h3
    refine ⟨some ⟨w.heap.size, 0, none⟩, grownCap w (l.length + news.length) C e, [(w.heap.size, .cells (T.cells ([] ++ (l ++ news) ++ List.replicate (grownCap w (l.length + news.length) C e - (l.length + news.length)) z ++ [])).toArray e (0, 0))], w.drew.alloc (.cells (T.cells ([] ++ (l ++ news) ++ List.replicate (grownCap w (l.length + news.length) C e - (l.length + news.length)) z ++ [])).toArray e), ?_,
      ⟨List.replicate (grownCap w (l.length + news.length) C e - (l.length + news.length)) z, by simp only [List.length_append, List.length_replicate]; omega, .inr ⟨w.heap.size, [], [], (0, 0), by simp, rfl, frOut_zero _, by simp only [List.length_append, List.length_replicate]; simp only [maxLen] at hcm; omega⟩⟩, ?_⟩
    rotate_left
    · exact Sep.swap (Sd.alloc _) hi
    · have hb48 : ¬ (281474976710656 < Builtin.nextslicecap (l.length + news.length) C * by_) := by omega
      have hb0 : by_ ≠ 0 := by omega
      have hmax : ¬ ((9223372036854775807 : Int) < (((l.length + news.length : Nat)) : Int)) := by omega
      have ez : Builtin.zeroCells (T.val z).cells (grownCap w (l.length + news.length) C e - (l.length + news.length)) = (T.cells (List.replicate (grownCap w (l.length + news.length) C e - (l.length + news.length)) z)).toArray := by
        rw [zeroCells_rep, Ty.cells_rep]
      have ecells : (T.cells l).toArray ++ (T.cells news).toArray ++ (T.cells (List.replicate (grownCap w (l.length + news.length) C e - (l.length + news.length)) z)).toArray = (T.cells ([] ++ (l ++ news) ++ List.replicate (grownCap w (l.length + news.length) C e - (l.length + news.length)) z ++ [])).toArray := by
        simp [Ty.cells_app]
      have hch : (choose (.appendCap (l.length + news.length) C e)).run P w = .ok (grownCap w (l.length + news.length) C e) w.drew := by
        rfl
      rcases h2 with h2 | ⟨e2, h2⟩
      all_goals
        unfold Builtin.append_
        simp only [run_underlying hT.u, run_underlying h2, sizeOf, typeInfo, Sem.run_bind, Result.andThen_ok, Sem.run_pure, run_program, hio, hsz, h0, List.getElem?_toArray, List.getElem?_cons_zero, List.getElem?_cons_succ, Bool.false_eq_true, if_false, hroom, hby, hb48, false_or, hb0, and_false, hch, run_askRoom, h3, h1, newRow, run_newObj, zeroValue, hz, ez, ecells, Bool.not_false, if_true]
        simp only [ez, ecells, List.length_append]
        rfl
section app
variable {α : Type} {T : Ty α} {t e : TypeId} {z : α} {by_ : Nat} {x y : Operand} {A A2 : Option Addr} {C C2 : Nat} {l news : List α} {s : Seg}
theorem Do.append (i : Nat) (hT : ElemOk X.P t e T z by_) (hi : H[i]? = some s) (ho : Own T e A C l s) (hr : Rd T X.w0 X.base H A2 C2 news) (hb : (l.length + news.length) * by_ ≤ 140737488355328) (hx : ev E x = some (.slice A l.length C)) (hy : ev E y = some (.slice A2 news.length C2)) : Does X E H (.call ⟨.builtin .append, #[x, y], #[t, t]⟩) (fun v H' => ∃ A' C' s', Own T e A' C' (l ++ news) s' ∧ v = .slice A' (l ++ news).length C' ∧ H' = H.set i s') :=
  Does.core rfl (fun dst ty pos after g ρ w hρ S => by
    obtain ⟨A', C', s', w', hrun, ho', S'⟩ := append_run (P := X.P) S (ty := ty) hT (.inr ⟨_, hT.u⟩) hi ho (x := .slice A2 news.length C2) (news := news) (fun w => by simp [Builtin.lenOf]) (fun w S => by have := hr.first (P := X.P) S news.length (Nat.le_refl _); rwa [List.take_length] at this) hb
    refine ⟨_, w', _, ?_, S', A', C', s', ho', rfl, rfl⟩
    simp [execOp, resolve, invoke, builtin, hρ _ _ hx, hρ _ _ hy, hrun])
theorem AtL.append (i : Nat) (hT : ElemOk X.P t e T z by_) (hi : H[i]? = some s) (ho : Own T e A C l s) (hr : Rd T X.w0 X.base H A2 C2 news) (hb : (l.length + news.length) * by_ ≤ 140737488355328) (hg : Wd X ops E g) (hd : Nat.blt d X.n = true)
    (hx : ev E x = some (.slice A l.length C)) (hy : ev E y = some (.slice A2 news.length C2))
    (hk : ∀ A' C' s', Own T e A' C' (l ++ news) s' → AtL X ops os k ((d, .slice A' (l ++ news).length C') :: E) ds (H.set i s')) :
    AtL X ops (⟨some d, .call ⟨.builtin .append, #[x, y], #[t, t]⟩, ty, pos, after, g⟩ :: os) k E ds H :=
  AtL.of (Do.append i hT hi ho hr hb hx hy) hg hd fun _ _ ⟨A', C', s', h', hv, hH⟩ => by subst hv; subst hH; exact hk A' C' s' h'
end app
theorem Do.appendS {t e u : TypeId} {x y : Operand} {A : Option Addr} {C : Nat} {l news : List UInt8} {s : Seg} (i : Nat) (hT : ElemOk X.P t e tyB 0 1) (hu : X.P.underlying u = some .string) (hi : H[i]? = some s) (ho : Own tyB e A C l s) (hb : l.length + news.length ≤ 140737488355328) (hx : ev E x = some (.slice A l.length C)) (hy : ev E y = some (str news)) : Does X E H (.call ⟨.builtin .append, #[x, y], #[t, u]⟩) (fun v H' => ∃ A' C' s', Own tyB e A' C' (l ++ news) s' ∧ v = .slice A' (l ++ news).length C' ∧ H' = H.set i s') :=
  Does.core rfl (fun dst ty pos after g ρ w hρ S => by
    obtain ⟨A', C', s', w', hrun, ho', S'⟩ := append_run (P := X.P) S (ty := ty) hT (.inl hu) hi ho (x := str news) (news := news) (fun w => by simp [Builtin.lenOf, str, str_size]) (fun w S => by
      have e1 : (ByteArray.mk ⟨news⟩).extract 0 news.length = ByteArray.mk ⟨news⟩ := by
        apply ByteArray.ext
        simp
      have e2 : (tyB.cells news).toArray = (⟨news⟩ : Array UInt8).map fun b => Value.int .u8 b.toNat := by
        apply Array.ext'
        rw [tyB_cells]
        simp [byt]
      simp [Builtin.firstCells, str, e1, e2]) (by omega)
    refine ⟨_, w', _, ?_, S', A', C', s', ho', rfl, rfl⟩
    simp [execOp, resolve, invoke, builtin, hρ _ _ hx, hρ _ _ hy, hrun])
theorem AtL.appendS {t e u : TypeId} {x y : Operand} {A : Option Addr} {C : Nat} {l news : List UInt8} {s : Seg} (i : Nat) (hT : ElemOk X.P t e tyB 0 1) (hu : X.P.underlying u = some .string) (hi : H[i]? = some s) (ho : Own tyB e A C l s) (hb : l.length + news.length ≤ 140737488355328) (hg : Wd X ops E g) (hd : Nat.blt d X.n = true)
    (hx : ev E x = some (.slice A l.length C)) (hy : ev E y = some (str news))
    (hk : ∀ A' C' s', Own tyB e A' C' (l ++ news) s' → AtL X ops os k ((d, .slice A' (l ++ news).length C') :: E) ds (H.set i s')) :
    AtL X ops (⟨some d, .call ⟨.builtin .append, #[x, y], #[t, u]⟩, ty, pos, after, g⟩ :: os) k E ds H :=
  AtL.of (Do.appendS i hT hu hi ho hb hx hy) hg hd fun _ _ ⟨A', C', s', h', hv, hH⟩ => by subst hv; subst hH; exact hk A' C' s' h'
end
end Go.Proofs.YtlkdmbpbjhjkfaaGreatDoor
