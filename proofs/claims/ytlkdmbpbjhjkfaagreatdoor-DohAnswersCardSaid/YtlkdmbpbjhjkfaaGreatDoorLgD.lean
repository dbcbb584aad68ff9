/- A logic for walks: memory. Cells, lists that are read, blocks of a value's own; loads, stores, new blocks. -/
import Derived.Test.YtlkdmbpbjhjkfaaGreatDoorLgC
import Derived.Laws.Cells
import Derived.Laws.CopyRow
import Derived.Laws.AppendOwn
namespace Go.Proofs.YtlkdmbpbjhjkfaaGreatDoor
open Go.RowKit (Below)
set_option linter.unusedVariables false
set_option linter.unusedSimpArgs false

/-- In every world of this memory the cell at p holds v. -/
def Cell (w0 : World) (base : Nat) (H : List Seg) (p : Addr) (v : Value) : Prop := ∀ w, Sep w0 base w H → w.cell? p = some v
theorem addr_add (b off i : Nat) : (⟨b, off, none⟩ : Addr).add i = ⟨b, off + i, none⟩ := by
  unfold Addr.add; split
  · rename_i h; subst h; rfl
  · rfl
theorem Sep.at_ {w0 : World} {base : Nat} {w : World} {H : List Seg} (S : Sep w0 base w H) {i j : Nat} {s : Seg} {b : Nat} {o : Obj} (hi : H[i]? = some s) (hj : s[j]? = some (b, o)) : w.heap[b]? = some o ∧ base ≤ b := by
  have hm : (b, o) ∈ H.flatten := List.mem_flatten.2 ⟨s, List.mem_iff_getElem?.2 ⟨i, hi⟩, List.mem_iff_getElem?.2 ⟨j, hj⟩⟩
  exact ⟨(S.mem _ hm).2, (S.mem _ hm).1⟩
section
variable {w0 : World} {base : Nat} {H : List Seg}
theorem Cell.own {b k : Nat} {cs : Array Value} {e : TypeId} {fr : Nat × Nat} {v : Value} {s : Seg} (i j : Nat) (hi : H[i]? = some s) (hj : s[j]? = some (b, .cells cs e fr)) (hk : cs[k]? = some v) : Cell w0 base H ⟨b, k, none⟩ v :=
  fun w S => by rw [cell_of_row w b k cs e fr (S.at_ hi hj).1]; exact hk
theorem Cell.skip {p : Addr} {v : Value} (n : Nat) (h : Cell w0 base (H.drop n) p v) : Cell w0 base H p v := fun w S => h w (S.pick [] n rfl)
end

/-- A type of elements: how one is a value, of how many cells. -/
structure Ty (α : Type) where
  val : α → Value
  sz : Nat
  ok : ∀ x, (val x).cells.size = sz
  plain : ∀ x c, c ∈ (val x).cells.toList → c.oneCell' = true
def Ty.cells {α : Type} (T : Ty α) (l : List α) : List Value := l.flatMap fun x => (T.val x).cells.toList
section ty
variable {α : Type} {T : Ty α}
theorem Ty.cells_len (l : List α) : (T.cells l).length = l.length * T.sz := by
  induction l with
  | nil => simp [Ty.cells]
  | cons x l ih =>
    simp only [Ty.cells, List.flatMap_cons, List.length_append, List.length_cons, Array.length_toList, T.ok] at ih ⊢
    rw [ih, Nat.add_mul]; omega
theorem Ty.cells_app (l r : List α) : T.cells (l ++ r) = T.cells l ++ T.cells r := by simp [Ty.cells]
theorem Ty.cells_get {l : List α} {i j : Nat} {x : α} {u : Value} (hx : l[i]? = some x) (hu : (T.val x).cells[j]? = some u) : (T.cells l)[i * T.sz + j]? = some u := by
  induction l generalizing i with
  | nil => simp at hx
  | cons y l ih =>
    have hcons : T.cells (y :: l) = (T.val y).cells.toList ++ T.cells l := by simp [Ty.cells]
    rw [hcons]
    have hly : (T.val y).cells.toList.length = T.sz := by rw [Array.length_toList, T.ok]
    cases i with
    | zero =>
      simp only [List.getElem?_cons_zero, Option.some.injEq] at hx
      subst hx
      have hj : j < T.sz := by rw [← T.ok y]; exact (Array.getElem?_eq_some_iff.1 hu).1
      rw [Nat.zero_mul, Nat.zero_add, List.getElem?_append_left (by omega), Array.getElem?_toList]
      exact hu
    | succ i =>
      simp only [List.getElem?_cons_succ] at hx
      have e : (i + 1) * T.sz + j = T.sz + (i * T.sz + j) := by rw [Nat.add_mul]; omega
      rw [e, List.getElem?_append_right (by omega), hly, Nat.add_sub_cancel_left]
      exact ih hx
theorem Ty.cells_plain {l : List α} : ∀ c ∈ T.cells l, c.oneCell' = true := by
  intro c hc
  obtain ⟨x, _, hx⟩ := List.mem_flatMap.1 hc
  exact T.plain x c hx
theorem Ty.cells_set {l : List α} {i : Nat} {y : α} (hi : i < l.length) : T.cells (l.set i y) = (T.cells l).take (i * T.sz) ++ (T.val y).cells.toList ++ (T.cells l).drop (i * T.sz + T.sz) := by
  have h1 : l = l.take i ++ l[i] :: l.drop (i + 1) := by rw [← List.drop_eq_getElem_cons hi, List.take_append_drop]
  have hl : (l.take i).length = i := by rw [List.length_take]; omega
  have h2 : l.set i y = l.take i ++ y :: l.drop (i + 1) := by rw [List.set_eq_take_append_cons_drop, if_pos hi]
  have hc : T.cells l = T.cells (l.take i) ++ ((T.val l[i]).cells.toList ++ T.cells (l.drop (i + 1))) := by
    have h3 : T.cells (l[i] :: l.drop (i + 1)) = (T.val l[i]).cells.toList ++ T.cells (l.drop (i + 1)) := List.flatMap_cons ..
    rw [show T.cells l = T.cells (l.take i ++ l[i] :: l.drop (i + 1)) from congrArg T.cells h1, Ty.cells_app, h3]
  have hcl : (T.cells (l.take i)).length = i * T.sz := by rw [Ty.cells_len, hl]
  have hv : (T.val l[i]).cells.toList.length = T.sz := by rw [Array.length_toList, T.ok]
  rw [h2, hc, Ty.cells_app]
  rw [List.take_left' hcl]
  rw [show i * T.sz + T.sz = (T.cells (l.take i) ++ (T.val l[i]).cells.toList).length from by rw [List.length_append, hcl, hv]]
  rw [← List.append_assoc, List.drop_left]
  simp [Ty.cells]
end ty

def tyB : Ty UInt8 := { val := byt, sz := 1, ok := fun _ => rfl, plain := fun x c hc => by simp [byt, Value.cells] at hc; subst hc; rfl }
def tyI : Ty Int := { val := int, sz := 1, ok := fun _ => rfl, plain := fun x c hc => by simp [int, Value.cells] at hc; subst hc; rfl }
def tyS : Ty (List UInt8) := { val := str, sz := 1, ok := fun _ => rfl, plain := fun x c hc => by simp [str, Value.cells] at hc; subst hc; rfl }
/-- Slices as elements: address, length, capacity. -/
def tyV : Ty (Option Addr × Nat × Nat) := { val := fun v => .slice v.1 v.2.1 v.2.2, sz := 1, ok := fun _ => rfl, plain := fun x c hc => by simp [Value.cells] at hc; subst hc; rfl }

def frOut (fr : Nat × Nat) (n : Nat) : Prop := ∀ j, j < n → (decide (fr.1 ≤ j) && decide (j < fr.2)) = false
theorem frOut_zero (n : Nat) : frOut (0, 0) n := fun j _ => by simp
theorem frOut.mono {fr : Nat × Nat} {n m : Nat} (h : frOut fr n) (hm : m ≤ n) : frOut fr m := fun j hj => h j (Nat.lt_of_lt_of_le hj hm)

/-- A slice reads as a list, in every world of this memory. -/
structure Rd {α : Type} (T : Ty α) (w0 : World) (base : Nat) (H : List Seg) (A : Option Addr) (C : Nat) (l : List α) : Prop where
  le : l.length ≤ C
  cap : C ≤ 9223372036854775807
  nil : A = none → C = 0
  cells : l ≠ [] → ∃ b off, A = some ⟨b, off, none⟩ ∧ ∀ w, Sep w0 base w H → ∀ j u, (T.cells l)[j]? = some u → w.cell? ⟨b, off + j, none⟩ = some u
/-- A slice of blocks of its own: what it holds, what stands in its room. -/
def OwnR {α : Type} (T : Ty α) (e : TypeId) (A : Option Addr) (l r : List α) (s : Seg) : Prop :=
  (A = none ∧ l = [] ∧ r = [] ∧ s = []) ∨
  ∃ g pre post fr, A = some ⟨g, pre.length * T.sz, none⟩ ∧ s = [(g, .cells (T.cells (pre ++ l ++ r ++ post)).toArray e fr)] ∧ frOut fr ((pre ++ l ++ r ++ post).length * T.sz) ∧ l.length + r.length ≤ 9223372036854775807
def Own {α : Type} (T : Ty α) (e : TypeId) (A : Option Addr) (C : Nat) (l : List α) (s : Seg) : Prop := ∃ r, C = l.length + r.length ∧ OwnR T e A l r s
theorem OwnR.own {α : Type} {T : Ty α} {e : TypeId} {A : Option Addr} {l r : List α} {s : Seg} (h : OwnR T e A l r s) : Own T e A (l.length + r.length) l s := ⟨r, rfl, h⟩
theorem Own.nil {α : Type} (T : Ty α) (e : TypeId) : Own T e none 0 [] [] := ⟨[], rfl, .inl ⟨rfl, rfl, rfl, rfl⟩⟩

section views
variable {α : Type} {T : Ty α} {w0 : World} {base : Nat} {H : List Seg} {A : Option Addr} {C : Nat} {l r : List α} {e : TypeId} {s : Seg}
theorem Rd.skip (n : Nat) (h : Rd T w0 base (H.drop n) A C l) : Rd T w0 base H A C l :=
  ⟨h.le, h.cap, h.nil, fun hl => let ⟨b, off, hA, hc⟩ := h.cells hl; ⟨b, off, hA, fun w S => hc w (S.pick [] n rfl)⟩⟩
theorem Rd.up (h : Rd T w0 base H A C l) (s : Seg) : Rd T w0 base (s :: H) A C l := Rd.skip 1 h
theorem Rd.nil_ : Rd T w0 base H none 0 [] := ⟨Nat.le_refl _, by omega, fun _ => rfl, fun h => absurd rfl h⟩
theorem OwnR.rd (h : OwnR T e A l r s) {i : Nat} (hi : H[i]? = some s) : Rd T w0 base H A (l.length + r.length) l := by
  rcases h with ⟨rfl, rfl, rfl, rfl⟩ | ⟨g, pre, post, fr, rfl, rfl, hf, hm⟩
  · exact Rd.nil_
  · refine ⟨by omega, hm, (fun h => by cases h), fun _ => ⟨g, _, rfl, fun w S j u hu => ?_⟩⟩
    have hb := (S.at_ hi (j := 0) rfl).1
    rw [cell_of_row w g _ _ e fr hb]
    have hj := (List.getElem?_eq_some_iff.1 hu).1
    rw [List.getElem?_toArray, Ty.cells_app, Ty.cells_app, Ty.cells_app, ← Ty.cells_len (T := T) pre]
    rw [List.append_assoc, List.append_assoc, List.getElem?_append_right (Nat.le_add_right _ _), Nat.add_sub_cancel_left, List.getElem?_append_left hj]
    exact hu
theorem Own.rd (h : Own T e A C l s) {i : Nat} (hi : H[i]? = some s) : Rd T w0 base H A C l := by
  obtain ⟨r, rfl, h⟩ := h
  exact h.rd hi
theorem Own.cap_le (h : Own T e A C l s) : C ≤ 9223372036854775807 := by
  obtain ⟨r, rfl, h⟩ := h
  rcases h with ⟨_, rfl, rfl, _⟩ | ⟨_, _, _, _, _, _, _, h⟩
  · simp
  · exact h
theorem Own.le_cap (h : Own T e A C l s) : l.length ≤ C := by
  obtain ⟨r, rfl, h⟩ := h
  omega
/-- The address of an element. -/
def eaddr (A : Option Addr) (k : Nat) : Addr := (A.getD default).add k
theorem Rd.cell_at (h : Rd T w0 base H A C l) {i j : Nat} {x : α} {u : Value} (hx : l[i]? = some x) (hu : (T.val x).cells[j]? = some u) : Cell w0 base H ((eaddr A (i * T.sz)).add j) u := by
  obtain ⟨b, off, rfl, hc⟩ := h.cells (by rintro rfl; simp at hx)
  intro w S
  simp only [eaddr, Option.getD_some, addr_add]
  rw [Nat.add_assoc]
  exact hc w S _ u (Ty.cells_get hx hu)
theorem Rd.cell0 (h : Rd T w0 base H A C l) {i : Nat} {x : α} (hx : l[i]? = some x) (h1 : (T.val x).cells = #[T.val x]) : Cell w0 base H (eaddr A (i * T.sz)) (T.val x) :=
  h.cell_at hx (j := 0) (by rw [h1]; rfl)
theorem getD_some {l : List α} {i : Nat} (d : α) (h : i < l.length) : l[i]? = some (l.getD i d) := by
  rw [List.getElem?_eq_getElem h]; simp [List.getD, h]
end views

section
variable {X : Pt} {k : List Item} {E : Env} {ds : List Deferred} {H : List Seg} {ops : Array Oper} {os : List Oper}
  {d : Nat} {ty : TypeId} {pos : String} {after : Array Edge} {g : Option (Nat × Bool)}

def flatB (P : Program) (t : TypeId) : Bool := match P.underlying t with
  | some (.struct _) | some (.array _ _) | none => false
  | some _ => true
theorem isAgg_flat {P : Program} {t : TypeId} (h : flatB P t = true) (w : World) : (isAgg t).run P w = .ok false w := by
  unfold flatB at h
  cases hu : P.underlying t with
  | none => rw [hu] at h; cases h
  | some dd =>
    rw [hu] at h
    unfold isAgg
    simp only [Sem.run_bind, run_underlying hu, Result.andThen_ok]
    cases dd <;> first | rfl | cases h
theorem Do.load {t : TypeId} {x : Operand} {p : Addr} {v : Value} (hf : flatB X.P t = true) (hx : ev E x = some (.pointer (some p))) (hc : Cell X.w0 X.base H p v) : Does X E H (.load t x) (Is v H) :=
  Does.core rfl (fun dst ty pos after g ρ w hρ S => ⟨v, w, H, by
    simp [execOp, hρ _ _ hx, Instr.loadAt, Instr.sureAddr, loadVar, isAgg_flat hf, hc w S], S, rfl, rfl⟩)
theorem AtL.load {t : TypeId} {x : Operand} {p : Addr} {v : Value} (hf : flatB X.P t = true) (hg : Wd X ops E g) (hd : Nat.blt d X.n = true) (hx : ev E x = some (.pointer (some p))) (hc : Cell X.w0 X.base H p v) (hk : AtL X ops os k ((d, v) :: E) ds H) :
    AtL X ops (⟨some d, .load t x, ty, pos, after, g⟩ :: os) k E ds H := AtL.ofIs (Do.load hf hx hc) hg hd hk
def aggN (P : Program) (t : TypeId) : Option Nat := match P.underlying t with
  | some (.struct _) | some (.array _ _) => (P.info? t).map (·.size)
  | _ => none
theorem isAgg_agg {P : Program} {t n : Nat} (h : aggN P t = some n) (w : World) : (isAgg t).run P w = .ok true w ∧ (sizeOf t).run P w = .ok n w := by
  unfold aggN at h
  cases hu : P.underlying t with
  | none => rw [hu] at h; cases h
  | some dd =>
    rw [hu] at h
    cases hi : P.info? t with
    | none => rw [hi] at h; cases dd <;> simp at h
    | some i =>
      rw [hi] at h
      constructor
      · unfold isAgg
        simp only [Sem.run_bind, run_underlying hu, Result.andThen_ok]
        cases dd <;> first | rfl | (simp at h)
      · cases dd <;> simp at h <;> simp [sizeOf, typeInfo, hi, h]
theorem Do.loadN {t n : Nat} {x : Operand} {p : Addr} {cs : List Value} (hf : aggN X.P t = some n) (hx : ev E x = some (.pointer (some p))) (hn : cs.length = n) (hc : ∀ j v, cs[j]? = some v → Cell X.w0 X.base H (p.add j) v) : Does X E H (.load t x) (Is (.agg cs.toArray) H) :=
  Does.core rfl (fun dst ty pos after g ρ w hρ S => ⟨.agg cs.toArray, w, H, by
    subst hn
    simp [execOp, hρ _ _ hx, Instr.loadAt, Instr.sureAddr, loadVar, (isAgg_agg hf w).1, (isAgg_agg hf w).2, run_loadCells_list w p cs (fun j v hv => hc j v hv w S)], S, rfl, rfl⟩)
theorem AtL.loadN {t n : Nat} {x : Operand} {p : Addr} {cs : List Value} (hf : aggN X.P t = some n) (hg : Wd X ops E g) (hd : Nat.blt d X.n = true) (hx : ev E x = some (.pointer (some p))) (hn : cs.length = n)
    (hc : ∀ j v, cs[j]? = some v → Cell X.w0 X.base H (p.add j) v) (hk : AtL X ops os k ((d, .agg cs.toArray) :: E) ds H) :
    AtL X ops (⟨some d, .load t x, ty, pos, after, g⟩ :: os) k E ds H := AtL.ofIs (Do.loadN hf hx hn hc) hg hd hk
/-- An element of several cells is read. -/
theorem Do.loadE {α : Type} {T : Ty α} {t n i : Nat} {x : Operand} {A : Option Addr} {C : Nat} {l : List α} {y : α} {cs : Array Value} (hr : Rd T X.w0 X.base H A C l) (hy : l[i]? = some y) (hv : T.val y = .agg cs) (hf : aggN X.P t = some T.sz)
    (hx : ev E x = some (.pointer (some (eaddr A (i * T.sz))))) : Does X E H (.load t x) (Is (T.val y) H) := by
  have hcs : (T.val y).cells = cs := by rw [hv]; rfl
  have hn := T.ok y
  rw [hcs] at hn
  have := Do.loadN (X := X) (E := E) (H := H) (cs := cs.toList) hf hx (by simpa using hn) (fun j v hj => hr.cell_at hy (by rw [hcs]; simpa using hj))
  rw [hv]
  exact this
theorem AtL.loadE {α : Type} {T : Ty α} {t n i : Nat} {x : Operand} {A : Option Addr} {C : Nat} {l : List α} {y : α} {cs : Array Value} (hr : Rd T X.w0 X.base H A C l) (hy : l[i]? = some y) (hv : T.val y = .agg cs) (hf : aggN X.P t = some T.sz) (hg : Wd X ops E g) (hd : Nat.blt d X.n = true)
    (hx : ev E x = some (.pointer (some (eaddr A (i * T.sz))))) (hk : AtL X ops os k ((d, T.val y) :: E) ds H) : AtL X ops (⟨some d, .load t x, ty, pos, after, g⟩ :: os) k E ds H := AtL.ofIs (Do.loadE (n := n) hr hy hv hf hx) hg hd hk
def sizeN (P : Program) (t n : Nat) : Bool := match P.info? t with
  | some i => Nat.beq i.size n
  | none => false
theorem sizeN_run {P : Program} {t n : Nat} (h : sizeN P t n = true) (w : World) : (sizeOf t).run P w = .ok n w := by
  unfold sizeN at h
  cases hi : P.info? t with
  | none => rw [hi] at h; cases h
  | some i =>
    rw [hi] at h
    simp [sizeOf, typeInfo, hi, Nat.eq_of_beq_eq_true h]
theorem run_storeCells_blk (P : Program) (g o : Nat) (t : TypeId) (fr : Nat × Nat) : ∀ (vs : List Value) (i : Nat) (cur : Array Value) (w : World), w.heap[g]? = some (.cells cur t fr) → (∀ j, o + i ≤ j → j < o + i + vs.length → (decide (fr.1 ≤ j) && decide (j < fr.2)) = false) →
    o + i + vs.length ≤ cur.size → (∀ v ∈ vs, v.oneCell' = true) →
    (storeCells ⟨g, o, none⟩ vs i).run P w = .ok () (w.setRow g (cur.toList.take (o + i) ++ vs ++ cur.toList.drop (o + i + vs.length)).toArray)
  | [], i, cur, w, hg, _, _, _ => by
    simp only [storeCells, List.append_nil, List.length_nil, Nat.add_zero, List.take_append_drop, Array.toArray_toList]
    rw [setRow_self w g cur t fr hg]
    rfl
  | v :: rest, i, cur, w, hg, hfz, hl, h1 => by
    have hi : o + i < cur.size := by simp at hl; omega
    have hcell : w.cell? ⟨g, o + i, none⟩ = some cur[o + i] := by simp [World.cell?, hg, hi]
    have hfro : w.frozen? ⟨g, o + i, none⟩ = false := by
      have := hfz (o + i) (Nat.le_refl _) (by simp)
      simpa only [World.frozen?, hg] using this
    have hst : (store ((⟨g, o, none⟩ : Addr).add i) v).run P w = .ok () (w.setRow g (cur.setIfInBounds (o + i) v)) := by
      rw [addr_add, run_store P w _ v _ (h1 v (by simp)), hcell]
      simp [hfro, setCell_eq_setRow w g (o + i) cur t fr v hg]
    have ih := run_storeCells_blk P g o t fr rest (i + 1) (cur.setIfInBounds (o + i) v) (w.setRow g (cur.setIfInBounds (o + i) v)) (setRow_heap w g cur _ t _ hg)
      (fun j h1 h2 => hfz j (by omega) (by simp at h2 ⊢; omega)) (by simp at hl ⊢; omega) (fun x hx => h1 x (by simp [hx]))
    simp only [storeCells, Sem.run_bind, hst, Result.andThen_ok, ih, setRow_setRow]
    congr 3
    have e := list_seg_step cur.toList (o + i) v rest (by simp at hl ⊢; omega)
    simpa [Array.toList_setIfInBounds, Nat.add_assoc] using e
theorem Sep.setRow {w0 : World} {base : Nat} {w : World} (S : Sep w0 base w H) {i j : Nat} {s : Seg} {b : Nat} {cs : Array Value} {e : TypeId} {fr : Nat × Nat} (hi : H[i]? = some s) (hj : s[j]? = some (b, .cells cs e fr)) (cs' : Array Value) :
    Sep w0 base (w.setRow b cs') (H.set i (s.set j (b, .cells cs' e fr))) :=
  S.write hi hj _ rfl rfl rfl (by simp [World.setRow]) (setRow_heap w b cs cs' e fr (S.at_ hi hj).1) (fun k hk => setRow_other w b k cs' hk)
/-- What a store of some cells at a place leaves. -/
def putCells (cs : Array Value) (o : Nat) (vs : List Value) : Array Value := (cs.toList.take o ++ vs ++ cs.toList.drop (o + vs.length)).toArray
def noFr (fr : Nat × Nat) (o n : Nat) : Bool := Nat.ble fr.2 fr.1 || Nat.ble fr.2 o || Nat.ble (o + n) fr.1
theorem noFr_out {fr : Nat × Nat} {o n : Nat} (h : noFr fr o n = true) (j : Nat) (h1 : o ≤ j) (h2 : j < o + n) : (decide (fr.1 ≤ j) && decide (j < fr.2)) = false := by
  simp only [noFr, Bool.or_eq_true] at h
  rw [Bool.and_eq_false_iff, decide_eq_false_iff_not, decide_eq_false_iff_not]
  rcases h with (h | h) | h <;> have := Nat.le_of_ble_eq_true h <;> omega
/-- A store into a block of one's own. -/
theorem Do.store {t n : Nat} {x y : Operand} {b o : Nat} {v : Value} {s : Seg} {cs : Array Value} {e : TypeId} {fr : Nat × Nat} {H' : List Seg} (i j : Nat) (hsz : sizeN X.P t n = true) (hx : ev E x = some (.pointer (some ⟨b, o, none⟩))) (hy : ev E y = some v)
    (hi : H[i]? = some s) (hj : s[j]? = some (b, .cells cs e fr)) (hn : v.cells.size = n) (h1 : v.cells.toList.all (·.oneCell') = true) (ho : Nat.ble (o + n) cs.size = true) (hfr : noFr fr o n = true)
    (hH : H.set i (s.set j (b, .cells (putCells cs o v.cells.toList) e fr)) = H') : Does X E H (.store t x y) (Is undef H') :=
  Does.coreU rfl (fun dst ty pos after g ρ w hρ S => by
    have hb := (S.at_ hi hj).1
    have hl : v.cells.toList.length = n := by simpa using hn
    have ho := Nat.le_of_ble_eq_true ho
    have hst := run_storeCells_blk X.P b o e fr v.cells.toList 0 cs w hb (fun j h1 h2 => noFr_out hfr j (by omega) (by rw [hl] at h2; omega)) (by rw [hl]; omega) (fun u hu => List.all_eq_true.1 h1 u hu)
    refine ⟨_, H', ?_, hH ▸ S.setRow hi hj _, rfl, rfl⟩
    simp only [Nat.add_zero] at hst
    simp [execOp, hρ _ _ hx, hρ _ _ hy, Instr.storeAt, Instr.sureAddr, storeVar, sizeN_run hsz, hn]
    rw [hst]
    rfl)
theorem AtL.store {t n : Nat} {x y : Operand} {b o : Nat} {v : Value} {s : Seg} {cs : Array Value} {e : TypeId} {fr : Nat × Nat} {H' : List Seg} (i j : Nat) (hsz : sizeN X.P t n = true) (hg : Wd X ops E g) (hx : ev E x = some (.pointer (some ⟨b, o, none⟩))) (hy : ev E y = some v)
    (hi : H[i]? = some s) (hj : s[j]? = some (b, .cells cs e fr)) (hn : v.cells.size = n) (h1 : v.cells.toList.all (·.oneCell') = true) (ho : Nat.ble (o + n) cs.size = true) (hfr : noFr fr o n = true)
    (hH : H.set i (s.set j (b, .cells (putCells cs o v.cells.toList) e fr)) = H') (hk : AtL X ops os k E ds H') : AtL X ops (⟨none, .store t x y, ty, pos, after, g⟩ :: os) k E ds H :=
  AtL.of (Do.store i j hsz hx hy hi hj hn h1 ho hfr hH) hg rfl fun _ _ ⟨_, hH⟩ => by subst hH; exact hk
/-- A new block. -/
theorem Does.new {op : Op} {cs : Array Value} {e : TypeId} {fv : Nat → Value} (hnd : Op.isDefer op = false)
    (hr : ∀ dst ty pos after g ρ w, (∀ x v, ev E x = some v → ρ x = v) → Sep X.w0 X.base w H → (execOp ρ ⟨dst, op, ty, pos, after, g⟩).run X.P w = .ok (.value (fv w.heap.size)) (w.alloc (.cells cs e))) :
    Does X E H op (fun v H' => ∃ b, v = fv b ∧ H' = [(b, .cells cs e (0, 0))] :: H) :=
  Does.core hnd fun dst ty pos after g ρ w hρ S => ⟨_, _, _, hr dst ty pos after g ρ w hρ S, S.alloc _, _, rfl, rfl⟩
def zeroV (P : Program) (t : TypeId) : Option Value := match P.info? t with
  | some i => i.zero
  | none => none
theorem zeroV_run {P : Program} {t : TypeId} {z : Value} (h : zeroV P t = some z) (w : World) : (zeroValue t).run P w = .ok z w := by
  unfold zeroV at h
  cases hi : P.info? t with
  | none => rw [hi] at h; cases h
  | some i =>
    rw [hi] at h
    have h : i.zero = some z := h
    simp [zeroValue, typeInfo, hi, h]
theorem Do.alloc {e : TypeId} {z : Value} {cs : Array Value} (hz : zeroV X.P e = some z) (hcs : z.cells = cs) : Does X E H (.alloc e) (fun v H' => ∃ b, v = .pointer (some ⟨b, 0, none⟩) ∧ H' = [(b, .cells cs e (0, 0))] :: H) :=
  Does.new (fv := fun b => .pointer (some ⟨b, 0, none⟩)) rfl (fun dst ty pos after g ρ w hρ S => by
    subst hcs
    simp [execOp, Instr.alloc, zeroV_run hz, newVar, newRow])
theorem AtL.alloc {e : TypeId} {z : Value} {cs : Array Value} (hz : zeroV X.P e = some z) (hcs : z.cells = cs) (hg : Wd X ops E g) (hd : Nat.blt d X.n = true) (hk : ∀ b, AtL X ops os k ((d, .pointer (some ⟨b, 0, none⟩)) :: E) ds ([(b, .cells cs e (0, 0))] :: H)) :
    AtL X ops (⟨some d, .alloc e, ty, pos, after, g⟩ :: os) k E ds H := AtL.of (Do.alloc hz hcs) hg hd fun _ _ ⟨b, hv, hH⟩ => by subst hv; subst hH; exact hk b
theorem Do.box {e : TypeId} {x : Operand} {v : Value} {cs : Array Value} (hcs : v.cells = cs) (hx : ev E x = some v) : Does X E H (.box e x) (fun v H' => ∃ b, v = .pointer (some ⟨b, 0, none⟩) ∧ H' = [(b, .cells cs e (0, 0))] :: H) :=
  Does.new (fv := fun b => .pointer (some ⟨b, 0, none⟩)) rfl (fun dst ty pos after g ρ w hρ S => by
    subst hcs
    simp [execOp, Instr.box, hρ _ _ hx, newVar, newRow])
theorem AtL.box {e : TypeId} {x : Operand} {v : Value} {cs : Array Value} (hcs : v.cells = cs) (hg : Wd X ops E g) (hd : Nat.blt d X.n = true) (hx : ev E x = some v) (hk : ∀ b, AtL X ops os k ((d, .pointer (some ⟨b, 0, none⟩)) :: E) ds ([(b, .cells cs e (0, 0))] :: H)) :
    AtL X ops (⟨some d, .box e x, ty, pos, after, g⟩ :: os) k E ds H := AtL.of (Do.box hcs hx) hg hd fun _ _ ⟨b, hv, hH⟩ => by subst hv; subst hH; exact hk b
/-- Parts laid over cells. -/
def fillL (place : Nat → Option (Nat × Nat)) : List Value → List (Nat × Value) → Option (List Value)
  | cells, [] => some cells
  | cells, (i, v) :: rest => match place i with
    | none => none
    | some (off, size) => match Nat.beq v.cells.toList.length size && Nat.ble (off + size) cells.length with
      | true => fillL place (cells.take off ++ (v.cells.toList ++ cells.drop (off + size))) rest
      | false => none
theorem fold_set (vs : List Value) : ∀ (cs : Array Value) (off i : Nat), off + i + vs.length ≤ cs.size → (vs.zipIdx i).foldl (fun (cs : Array Value) (p : Value × Nat) => cs.setIfInBounds (off + p.2) p.1) cs = (cs.toList.take (off + i) ++ (vs ++ cs.toList.drop (off + i + vs.length))).toArray := by
  induction vs with
  | nil => intro cs off i h; apply Array.ext'; simp
  | cons v vs ih =>
    intro cs off i h
    rw [List.zipIdx_cons, List.foldl_cons, ih _ off (i + 1) (by simp at h ⊢; omega)]
    apply Array.ext'
    have hlt : off + i < cs.toList.length := by simp at h ⊢; omega
    simp only [Array.toList_setIfInBounds, List.cons_append, List.length_cons]
    rw [List.set_eq_take_append_cons_drop, if_pos hlt]
    have hl : (cs.toList.take (off + i)).length = off + i := by rw [List.length_take]; omega
    rw [show off + (i + 1) = (cs.toList.take (off + i) ++ [v]).length from by rw [List.length_append, hl]; simp; omega]
    rw [show cs.toList.take (off + i) ++ v :: cs.toList.drop (off + i + 1) = (cs.toList.take (off + i) ++ [v]) ++ cs.toList.drop (off + i + 1) from by simp]
    rw [List.take_left, List.drop_append]
    simp only [List.length_append, hl, List.length_cons, List.length_nil, Nat.zero_add, List.append_assoc, List.singleton_append]
    congr 3
    rw [List.drop_eq_nil_of_le (by simp [hl]), List.nil_append, List.drop_drop]
    congr 1
    omega
theorem fillL_eq {place : Nat → Option (Nat × Nat)} {cells : List Value} {ps : List (Nat × Value)} {cs : List Value} (h : fillL place cells ps = some cs) : Instr.fill place cells.toArray ps = some cs.toArray := by
  induction ps generalizing cells with
  | nil => simp only [fillL, Option.some.injEq] at h; subst h; rfl
  | cons p ps ih =>
    obtain ⟨i, v⟩ := p
    unfold fillL at h
    unfold Instr.fill
    cases hp : place i with
    | none => rw [hp] at h; cases h
    | some os =>
      obtain ⟨off, size⟩ := os
      rw [hp] at h
      simp only at h ⊢
      cases hc : (Nat.beq v.cells.toList.length size && Nat.ble (off + size) cells.length) with
      | false => rw [hc] at h; cases h
      | true =>
        rw [hc] at h
        simp only at h
        rw [Bool.and_eq_true] at hc
        have h1 : v.cells.size = size := by simpa using Nat.eq_of_beq_eq_true hc.1
        have h2 := Nat.le_of_ble_eq_true hc.2
        rw [if_neg (by simp [h1]; omega)]
        rw [← ih h]
        congr 1
        have := fold_set v.cells.toList cells.toArray off 0 (by simp [h1]; omega)
        simp only [Nat.add_zero, Array.length_toList, h1] at this
        rw [← this, ← Array.foldl_toList, Array.toList_zipIdx]
/-- How a struct's parts lie, and its zero. -/
def layOf (P : Program) (t : TypeId) : Option (List (Nat × Nat) × List Value) := match P.underlying t with
  | some (.struct fs) => match fs.toList.mapM (fun f => (P.info? f.type).map fun i => (f.offset, i.size)), zeroV P t with
    | some pl, some z => some (pl, z.cells.toList)
    | _, _ => none
  | _ => none
theorem places_run {P : Program} {w : World} {fs : List Field} {pl : List (Nat × Nat)} (h : fs.mapM (fun f => (P.info? f.type).map fun i => (f.offset, i.size)) = some pl) :
    (fs.mapM (m := Sem) fun f => do pure (f.offset, ← sizeOf f.type)).run P w = .ok pl w := by
  induction fs generalizing pl with
  | nil => simp at h; subst h; rfl
  | cons f fs ih =>
    rw [List.mapM_cons] at h ⊢
    cases hi : P.info? f.type with
    | none => rw [hi] at h; simp at h
    | some i =>
      rw [hi] at h
      cases hr : fs.mapM (fun f => (P.info? f.type).map fun i => (f.offset, i.size)) with
      | none => rw [hr] at h; simp at h
      | some q =>
        rw [hr] at h
        simp at h
        subst h
        have := ih hr
        simp only [bind_pure_comp] at this ⊢
        simp [sizeOf, typeInfo, hi] at this ⊢
        simp [this]
def evsP (E : Env) : List (Nat × Operand) → Option (List (Nat × Value))
  | [] => some []
  | (i, x) :: xs => match ev E x with
    | some v => (evsP E xs).map ((i, v) :: ·)
    | none => none
theorem evsP_map {xs : List (Nat × Operand)} {vs : List (Nat × Value)} {ρ : Operand → Value} (hρ : ∀ x v, ev E x = some v → ρ x = v) (h : evsP E xs = some vs) : xs.map (fun p => (p.1, ρ p.2)) = vs := by
  induction xs generalizing vs with
  | nil => simpa [evsP] using h
  | cons p xs ih =>
    obtain ⟨i, x⟩ := p
    simp only [evsP] at h
    cases hx : ev E x with
    | none => rw [hx] at h; cases h
    | some v =>
      rw [hx] at h
      cases hr : evsP E xs with
      | none => rw [hr] at h; cases h
      | some us =>
        rw [hr] at h
        simp only [Option.map_some, Option.some.injEq] at h
        subst h
        rw [List.map_cons, hρ _ _ hx, ih hr]
theorem build_run {P : Program} {t : TypeId} {pl : List (Nat × Nat)} {z cs : List Value} {ps : List (Nat × Value)} (hl : layOf P t = some (pl, z)) (hf : fillL (fun i => pl[i]?) z ps = some cs) (w : World) : (Instr.build t ps.toArray).run P w = .ok (.agg cs.toArray) w := by
  unfold layOf at hl
  cases hu : P.underlying t with
  | none => rw [hu] at hl; cases hl
  | some dd =>
    rw [hu] at hl
    cases dd with
    | struct fs =>
      simp only at hl
      cases hp : fs.toList.mapM (fun f => (P.info? f.type).map fun i => (f.offset, i.size)) with
      | none => rw [hp] at hl; simp at hl
      | some q =>
        cases hz : zeroV P t with
        | none => rw [hp, hz] at hl; simp at hl
        | some z' =>
          rw [hp, hz] at hl
          simp at hl
          obtain ⟨rfl, rfl⟩ := hl
          have := places_run (w := w) hp
          have hm : (fs.mapM (m := Sem) fun f => do pure (f.offset, ← sizeOf f.type)).run P w = .ok q.toArray w := by
            rw [Array.mapM_eq_mapM_toList]
            simp only [Sem.run_map, this, Result.andThen_ok]
          unfold Instr.build
          simp only [Sem.run_bind, zeroV_run hz, run_underlying hu, Result.andThen_ok] at hm ⊢
          rw [hm]
          have hf2 := fillL_eq hf
          have hf3 : Instr.fill (fun i => q.toArray[i]?) z'.cells ps = some cs.toArray := by
            rw [← hf2]
            congr 1
            funext i
            rw [List.getElem?_toArray]
          simp only [Result.andThen_ok, hf3, Sem.run_pure]
    | _ => simp at hl
theorem Do.build {t : TypeId} {ps : Array (Nat × Operand)} {vs : List (Nat × Value)} {pl : List (Nat × Nat)} {z cs : List Value} (hl : layOf X.P t = some (pl, z)) (hx : evsP E ps.toList = some vs) (hf : fillL (fun i => pl[i]?) z vs = some cs) : Does X E H (.build t ps) (Is (.agg cs.toArray) H) :=
  Does.pureOp rfl (fun dst ty pos after g ρ w hρ => by
    have e : (ps.map fun p => (p.1, ρ p.2)) = vs.toArray := by
      apply Array.ext'
      rw [Array.toList_map]
      exact evsP_map hρ hx
    have hb := build_run hl hf w
    rw [← e] at hb
    simp only [execOp, Sem.run_bind, hb, Result.andThen_ok, Sem.run_pure])
theorem AtL.build {t : TypeId} {ps : Array (Nat × Operand)} {vs : List (Nat × Value)} {pl : List (Nat × Nat)} {z cs : List Value} (hl : layOf X.P t = some (pl, z)) (hg : Wd X ops E g) (hd : Nat.blt d X.n = true) (hx : evsP E ps.toList = some vs) (hf : fillL (fun i => pl[i]?) z vs = some cs)
    (hk : AtL X ops os k ((d, .agg cs.toArray) :: E) ds H) :
    AtL X ops (⟨some d, .build t ps, ty, pos, after, g⟩ :: os) k E ds H :=
  AtL.ofIs (Do.build hl hx hf) hg hd hk
theorem rep_get {l : List Value} {n i : Nat} (hi : i < n * l.length) : ((List.replicate n l).flatten)[i]? = l[i % l.length]? := by
  induction n generalizing i with
  | zero => simp at hi
  | succ n ih =>
    rw [List.replicate_succ, List.flatten_cons]
    have hl : 0 < l.length := by
      rcases Nat.eq_zero_or_pos l.length with h | h
      · rw [h] at hi; simp at hi
      · exact h
    rcases Nat.lt_or_ge i l.length with h | h
    · rw [List.getElem?_append_left h, Nat.mod_eq_of_lt h]
    · rw [List.getElem?_append_right h, ih (by rw [Nat.add_mul] at hi; omega), ← Nat.mod_eq_sub_mod h]
theorem range_rep (z : Array Value) (n : Nat) : (Array.range (n * z.size)).map (fun i => z[i % z.size]!) = ((List.replicate n z.toList).flatten).toArray := by
  apply Array.ext'
  apply List.ext_getElem?
  intro i
  rw [Array.toList_map, Array.toList_range, List.getElem?_map]
  rcases Nat.lt_or_ge i (n * z.size) with h | h
  · rw [List.getElem?_range h]
    show _ = ((List.replicate n z.toList).flatten)[i]?
    rw [rep_get (by simpa using h)]
    have hs : 0 < z.size := by
      rcases Nat.eq_zero_or_pos z.size with h' | h'
      · rw [h'] at h; simp at h
      · exact h'
    have hm := Nat.mod_lt i hs
    simp [getElem!_def, hm]
  · rw [List.getElem?_eq_none (by simpa using h)]
    rw [List.getElem?_eq_none (by simpa using h)]
    rfl
theorem Do.buildSlice {t e n sz : Nat} {ps : Array (Nat × Operand)} {vs : List (Nat × Value)} {z : Value} {cs : List Value} (hu : X.P.underlying t = some (.slice e)) (hz : zeroV X.P e = some z) (hs : sizeN X.P e sz = true) (hzs : Nat.beq z.cells.toList.length sz = true) (hn : Nat.ble (n * sz) 16777216 = true)
    (hx : evsP E ps.toList = some vs) (hf : fillL (fun i => some (i * sz, sz)) ((List.replicate n z.cells.toList).flatten) vs = some cs) : Does X E H (.buildSlice t n ps) (fun v H' => ∃ b, v = .slice (some ⟨b, 0, none⟩) n n ∧ H' = [(b, .cells cs.toArray e (0, 0))] :: H) :=
  Does.new (fv := fun b => .slice (some ⟨b, 0, none⟩) n n) rfl (fun dst ty pos after g ρ w hρ S => by
    have ep : (ps.map fun p => (p.1, ρ p.2)) = vs.toArray := by
      apply Array.ext'
      rw [Array.toList_map]
      exact evsP_map hρ hx
    have hn := Nat.le_of_ble_eq_true hn
    have hzz : z.cells.size = sz := by simpa using Nat.eq_of_beq_eq_true hzs
    have hff := fillL_eq hf
    have hb : (Instr.buildSlice t n vs.toArray).run X.P w = .ok (.slice (some ⟨w.heap.size, 0, none⟩) n n) (w.alloc (.cells cs.toArray e)) := by
      unfold Instr.buildSlice
      simp only [Sem.run_bind, run_underlying hu, Result.andThen_ok, sizeN_run hs]
      rw [if_neg (by simpa using hn)]
      by_cases h0 : n * sz = 0
      · rw [if_pos h0]
        have he : (List.replicate n z.cells.toList).flatten = [] := by
          apply List.eq_nil_of_length_eq_zero
          rw [List.length_flatten, List.map_replicate, List.sum_replicate_nat]
          rw [Array.length_toList, hzz]; exact h0
        rw [he] at hff
        have e0 : ∀ f : Nat → Value, (Array.range 0).map f = #[] := fun f => by
          have : Array.range 0 = #[] := by simp [Array.range]
          rw [this]; simp
        simp only [Sem.run_bind, Result.andThen_ok, Sem.run_pure, h0, e0, hff, newRow, run_newObj]
        rfl
      · rw [if_neg h0]
        have hr := range_rep z.cells n
        rw [hzz] at hr
        simp only [Sem.run_bind, Result.andThen_ok, Sem.run_pure, zeroV_run hz, hzz, hr, hff, newRow, run_newObj]
        rfl
    rw [← ep] at hb
    simp only [execOp, Sem.run_bind, hb, Result.andThen_ok, Sem.run_pure])
theorem AtL.buildSlice {t e n sz : Nat} {ps : Array (Nat × Operand)} {vs : List (Nat × Value)} {z : Value} {cs : List Value} (hu : X.P.underlying t = some (.slice e)) (hz : zeroV X.P e = some z) (hs : sizeN X.P e sz = true) (hzs : Nat.beq z.cells.toList.length sz = true) (hn : Nat.ble (n * sz) 16777216 = true) (hg : Wd X ops E g) (hd : Nat.blt d X.n = true)
    (hx : evsP E ps.toList = some vs) (hf : fillL (fun i => some (i * sz, sz)) ((List.replicate n z.cells.toList).flatten) vs = some cs)
    (hk : ∀ b, AtL X ops os k ((d, .slice (some ⟨b, 0, none⟩) n n) :: E) ds ([(b, .cells cs.toArray e (0, 0))] :: H)) : AtL X ops (⟨some d, .buildSlice t n ps, ty, pos, after, g⟩ :: os) k E ds H :=
  AtL.of (Do.buildSlice hu hz hs hzs hn hx hf) hg hd fun _ _ ⟨b, hv, hH⟩ => by subst hv; subst hH; exact hk b
/-- The place of a field. -/
def fieldOff (P : Program) (s f : Nat) : Option Nat := match P.underlying s with
  | some (.struct fs) => match fs[f]? with
    | some fd => match P.info? fd.type with
      | some i => if Nat.beq i.size 0 then none else some fd.offset
      | none => none
    | none => none
  | _ => none
theorem fieldOff_run {P : Program} {s f o : Nat} (h : fieldOff P s f = some o) (p : Addr) (w : World) : (Instr.fieldAt s (.pointer (some p)) f).run P w = .ok (.pointer (some (p.add o))) w := by
  unfold fieldOff at h
  cases hu : P.underlying s with
  | none => rw [hu] at h; cases h
  | some dd =>
    rw [hu] at h
    cases dd with
    | struct fs =>
      simp only at h
      cases hf : fs[f]? with
      | none => rw [hf] at h; cases h
      | some fd =>
        rw [hf] at h
        simp only at h
        cases hi : P.info? fd.type with
        | none => rw [hi] at h; cases h
        | some i =>
          rw [hi] at h
          simp only at h
          split at h
          · cases h
          · rename_i hne
            cases h
            have : ¬ i.size = 0 := by rintro e; rw [e] at hne; exact hne rfl
            simp [Instr.fieldAt, run_underlying hu, hf, Instr.sureAddr, fieldPlace, sizeOf, typeInfo, hi, this]
    | _ => simp at h
theorem Do.fieldAddr {s f o : Nat} {x : Operand} {p : Addr} (ho : fieldOff X.P s f = some o) (hx : ev E x = some (.pointer (some p))) : Does X E H (.fieldAddr s x f) (Is (.pointer (some (p.add o))) H) :=
  Does.pureOp rfl (fun dst ty pos after g ρ w hρ => by simp [execOp, hρ _ _ hx, fieldOff_run ho])
theorem AtL.fieldAddr {s f o : Nat} {x : Operand} {p : Addr} (ho : fieldOff X.P s f = some o) (hg : Wd X ops E g) (hd : Nat.blt d X.n = true) (hx : ev E x = some (.pointer (some p))) (hk : AtL X ops os k ((d, .pointer (some (p.add o))) :: E) ds H) :
    AtL X ops (⟨some d, .fieldAddr s x f, ty, pos, after, g⟩ :: os) k E ds H :=
  AtL.ofIs (Do.fieldAddr ho hx) hg hd hk
/-- The place of a field in a block. -/
theorem Do.fieldAddrB {s f o b q r : Nat} {x : Operand} (ho : fieldOff X.P s f = some o) (hx : ev E x = some (.pointer (some ⟨b, q, none⟩))) (hr : q + o = r) : Does X E H (.fieldAddr s x f) (Is (.pointer (some ⟨b, r, none⟩)) H) := by
  have := Do.fieldAddr (X := X) (E := E) (H := H) ho hx
  rw [addr_add, hr] at this
  exact this
theorem AtL.fieldAddrB {s f o b q r : Nat} {x : Operand} (ho : fieldOff X.P s f = some o) (hg : Wd X ops E g) (hd : Nat.blt d X.n = true) (hx : ev E x = some (.pointer (some ⟨b, q, none⟩))) (hr : q + o = r) (hk : AtL X ops os k ((d, .pointer (some ⟨b, r, none⟩)) :: E) ds H) :
    AtL X ops (⟨some d, .fieldAddr s x f, ty, pos, after, g⟩ :: os) k E ds H := AtL.ofIs (Do.fieldAddrB ho hx hr) hg hd hk
/-- A field of a struct's value. -/
def fieldGet (P : Program) (s f : Nat) (cs : Array Value) : Option Value := match P.underlying s with
  | some (.struct fs) => match fs[f]? with
    | some fd => if flatB P fd.type then cs[fd.offset]? else match aggN P fd.type with
      | some n => some (.agg (cs.extract fd.offset (fd.offset + n)))
      | none => none
    | none => none
  | _ => none
theorem fieldGet_run {P : Program} {s f : Nat} {cs : Array Value} {v : Value} (h : fieldGet P s f cs = some v) (w : World) : (Instr.field s (.agg cs) f).run P w = .ok v w := by
  unfold fieldGet at h
  cases hu : P.underlying s with
  | none => rw [hu] at h; cases h
  | some dd =>
    rw [hu] at h
    cases dd with
    | struct fs =>
      simp only at h
      cases hf : fs[f]? with
      | none => rw [hf] at h; cases h
      | some fd =>
        rw [hf] at h
        simp only at h
        split at h
        · rename_i hfl
          simp [Instr.field, run_underlying hu, hf, asAgg, part, isAgg_flat hfl, h]
        · split at h
          · rename_i n hn
            cases h
            simp [Instr.field, run_underlying hu, hf, asAgg, part, (isAgg_agg hn w).1, (isAgg_agg hn w).2]
          · cases h
    | _ => simp at h
theorem Do.field {s f : Nat} {x : Operand} {cs : Array Value} {v : Value} (hx : ev E x = some (.agg cs)) (hf : fieldGet X.P s f cs = some v) : Does X E H (.field s x f) (Is (v) H) :=
  Does.pureOp rfl (fun dst ty pos after g ρ w hρ => by simp [execOp, hρ _ _ hx, fieldGet_run hf])
theorem AtL.field {s f : Nat} {x : Operand} {cs : Array Value} {v : Value} (hg : Wd X ops E g) (hd : Nat.blt d X.n = true) (hx : ev E x = some (.agg cs)) (hf : fieldGet X.P s f cs = some v) (hk : AtL X ops os k ((d, v) :: E) ds H) :
    AtL X ops (⟨some d, .field s x f, ty, pos, after, g⟩ :: os) k E ds H :=
  AtL.ofIs (Do.field hx hf) hg hd hk
/-- The place of an element. -/
theorem Do.indexAddr {t e sz : Nat} {x ix : Operand} {A : Option Addr} {n C : Nat} {kk : IntKind} {i : Int} (j : Nat) (hu : X.P.underlying t = some (.slice e)) (hs : sizeN X.P e sz = true) (hx : ev E x = some (.slice A n C)) (hi : ev E ix = some (.int kk i)) (hij : i = (j : Int)) (hj : j < n) (hA : A ≠ none) : Does X E H (.indexAddr t x ix) (Is (.pointer (some (eaddr A (j * sz)))) H) :=
  Does.pureOp rfl (fun dst ty pos after g ρ w hρ => by
    subst hij
    cases A with
    | none => exact absurd rfl hA
    | some a => simp [execOp, hρ _ _ hx, hρ _ _ hi, Instr.indexAt, asIntOf, run_underlying hu, hj, sizeN_run hs, eaddr])
theorem AtL.indexAddr {t e sz : Nat} {x ix : Operand} {A : Option Addr} {n C : Nat} {kk : IntKind} {i : Int} (j : Nat) (hu : X.P.underlying t = some (.slice e)) (hs : sizeN X.P e sz = true) (hg : Wd X ops E g) (hd : Nat.blt d X.n = true) (hx : ev E x = some (.slice A n C)) (hi : ev E ix = some (.int kk i))
    (hij : i = (j : Int)) (hj : j < n) (hA : A ≠ none) (hk : AtL X ops os k ((d, .pointer (some (eaddr A (j * sz)))) :: E) ds H) :
    AtL X ops (⟨some d, .indexAddr t x ix, ty, pos, after, g⟩ :: os) k E ds H :=
  AtL.ofIs (Do.indexAddr j hu hs hx hi hij hj hA) hg hd hk
theorem Rd.ne_none {α : Type} {T : Ty α} {w0 : World} {base : Nat} {A : Option Addr} {C : Nat} {l : List α} (h : Rd T w0 base H A C l) {j : Nat} (hj : j < l.length) : A ≠ none := by
  intro e
  have h1 := h.nil e
  have h2 := h.le
  omega
/-- An element's place, and what stands there. -/
theorem Do.indexL {α : Type} {T : Ty α} {t e : Nat} {x ix : Operand} {A : Option Addr} {C : Nat} {l : List α} {kk : IntKind} {i : Int} (j : Nat) (hr : Rd T X.w0 X.base H A C l) (hu : X.P.underlying t = some (.slice e)) (hs : sizeN X.P e T.sz = true)
    (hx : ev E x = some (.slice A l.length C)) (hi : ev E ix = some (.int kk i)) (hij : i = (j : Int)) (hj : j < l.length) : Does X E H (.indexAddr t x ix) (Is (.pointer (some (eaddr A (j * T.sz)))) H) :=
  Do.indexAddr j hu hs hx hi hij hj (hr.ne_none hj)
theorem AtL.indexL {α : Type} {T : Ty α} {t e : Nat} {x ix : Operand} {A : Option Addr} {C : Nat} {l : List α} {kk : IntKind} {i : Int} (j : Nat) (hr : Rd T X.w0 X.base H A C l) (hu : X.P.underlying t = some (.slice e)) (hs : sizeN X.P e T.sz = true) (hg : Wd X ops E g) (hd : Nat.blt d X.n = true)
    (hx : ev E x = some (.slice A l.length C)) (hi : ev E ix = some (.int kk i)) (hij : i = (j : Int)) (hj : j < l.length) (hk : AtL X ops os k ((d, .pointer (some (eaddr A (j * T.sz)))) :: E) ds H) :
    AtL X ops (⟨some d, .indexAddr t x ix, ty, pos, after, g⟩ :: os) k E ds H := AtL.ofIs (Do.indexL j hr hu hs hx hi hij hj) hg hd hk
end
end Go.Proofs.YtlkdmbpbjhjkfaaGreatDoor
