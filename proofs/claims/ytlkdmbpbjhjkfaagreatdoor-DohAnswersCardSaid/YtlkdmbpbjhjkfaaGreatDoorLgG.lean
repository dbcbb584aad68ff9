/- A logic for walks: a region that draws its order. -/
import Derived.Test.YtlkdmbpbjhjkfaaGreatDoorLgF
import Derived.Orders
namespace Go.Proofs.YtlkdmbpbjhjkfaaGreatDoor
open Go.RowKit (Below)
set_option linter.unusedVariables false
set_option linter.unusedSimpArgs false

def depsL (o : Oper) : List Nat := (o.after.toList.filter (Region.binds .any)).map (·.on)
def tmpsOf : List Operand → List Nat
  | [] => []
  | .tmp t :: xs => t :: tmpsOf xs
  | _ :: xs => tmpsOf xs
/-- The slots that an operation reads, its guard's too. -/
def readsOf (os : List Oper) (o : Oper) : List Nat := tmpsOf o.op.operands.toList ++ (match o.guard with
  | some (j, _) => match os[j]? with
    | some p => p.dst.toList
    | none => []
  | none => [])
def masks : List Oper → List Nat → List Nat
  | [], acc => acc
  | o :: os, acc => masks os (acc ++ [(depsL o).foldl (fun s j => s ||| 2 ^ j ||| acc.getD j 0) 0])
/-- Which operations stand ahead of which, as bits. -/
def befB (M : List Nat) (j i : Nat) : Bool := (M.getD i 0).testBit j
def goesTo (o : Oper) (t : Nat) : Bool := match o.dst with
  | some d => Nat.beq d t
  | none => false
def okPair (M : List Nat) (os : List Oper) (i : Nat) (o : Oper) (j : Nat) (p : Oper) : Bool :=
  Nat.beq i j || (match p.dst with
    | none => true
    | some t => !((readsOf os o).any (Nat.beq t) || goesTo o t) || (if Nat.blt j i then befB M j i else befB M i j))
def okTmps (os : List Oper) : Bool :=
  let M := masks os []
  os.zipIdx.all fun (o, i) => os.zipIdx.all fun (p, j) => okPair M os i o j p
def okDeps (os : List Oper) : Bool := os.zipIdx.all fun (o, i) => (depsL o).all fun j => Nat.blt j i

section masks
theorem foldl_bits (acc : List Nat) (l : List Nat) (s j : Nat) (h : (l.foldl (fun s j => s ||| 2 ^ j ||| acc.getD j 0) s).testBit j = true) : s.testBit j = true ∨ ∃ i ∈ l, i = j ∨ (acc.getD i 0).testBit j = true := by
  induction l generalizing s with
  | nil => exact .inl h
  | cons a l ih =>
    rcases ih _ h with h | ⟨i, hi, h⟩
    · simp only [Nat.testBit_or, Bool.or_eq_true] at h
      rcases h with (h | h) | h
      · exact .inl h
      · rw [Nat.testBit_two_pow] at h
        exact .inr ⟨a, by simp, .inl (by simpa using h)⟩
      · exact .inr ⟨a, by simp, .inr h⟩
    · exact .inr ⟨i, by simp [hi], h⟩
theorem masks_prefix (os : List Oper) (acc : List Nat) (i : Nat) (hi : i < acc.length) : (masks os acc).getD i 0 = acc.getD i 0 := by
  induction os generalizing acc with
  | nil => rfl
  | cons o os ih =>
    rw [masks, ih _ (by simp; omega)]
    simp [List.getD, List.getElem?_append_left hi]
theorem masks_at (os : List Oper) (acc : List Nat) (i : Nat) (o : Oper) (ho : os[i]? = some o) (j : Nat) (h : ((masks os acc).getD (acc.length + i) 0).testBit j = true) :
    ∃ m ∈ depsL o, m = j ∨ ((masks os acc).getD m 0).testBit j = true := by
  induction os generalizing acc i with
  | nil => simp at ho
  | cons p os ih =>
    cases i with
    | zero =>
      simp only [List.getElem?_cons_zero, Option.some.injEq] at ho
      subst ho
      rw [masks, masks_prefix _ _ _ (by simp)] at h
      simp only [Nat.add_zero, List.getD, List.getElem?_append_right (Nat.le_refl _), Nat.sub_self, List.getElem?_cons_zero, Option.getD_some] at h
      rcases foldl_bits acc (depsL p) 0 j h with h | ⟨m, hm, h⟩
      · simp at h
      · refine ⟨m, hm, ?_⟩
        rcases h with h | h
        · exact .inl h
        · right
          rw [masks]
          have hlt : m < acc.length := by
            rcases Nat.lt_or_ge m acc.length with h' | h'
            · exact h'
            · simp [List.getD, List.getElem?_eq_none h'] at h
          rw [masks_prefix _ _ _ (by simp; omega)]
          simpa [List.getD, List.getElem?_append_left hlt] using h
    | succ i =>
      simp only [List.getElem?_cons_succ] at ho
      rw [masks] at h ⊢
      refine ih (acc ++ [_]) i ho ?_
      simp only [List.length_append, List.length_cons, List.length_nil]
      rw [show acc.length + (0 + 1) + i = acc.length + (i + 1) from by omega]
      exact h
theorem masks_len (os : List Oper) (acc : List Nat) : (masks os acc).length = acc.length + os.length := by
  induction os generalizing acc with
  | nil => simp [masks]
  | cons o os ih => rw [masks, ih]; simp; omega
/-- What stands ahead of an operation that is ready has been done. -/
theorem bef_done {os : List Oper} {D : Nat → Prop} (hD : ∀ i o, os[i]? = some o → D i → ∀ j ∈ depsL o, D j) (hdl : okDeps os = true) : ∀ (i : Nat) (o : Oper), os[i]? = some o → (∀ j ∈ depsL o, D j) → ∀ j, befB (masks os []) j i = true → D j := by
  intro i
  induction i using Nat.strongRecOn with
  | _ i ih =>
    intro o ho hr j hb
    have h := masks_at os [] i o ho j (by simpa [befB] using hb)
    obtain ⟨m, hm, h⟩ := h
    have hDm := hr m hm
    rcases h with rfl | h
    · exact hDm
    · have hlt : m < i := by
        have := List.all_eq_true.1 hdl (o, i) (List.mem_iff_getElem?.2 ⟨i, by simp [List.getElem?_zipIdx, ho]⟩)
        exact blt_lt (List.all_eq_true.1 this m hm)
      cases hp : os[m]? with
      | none =>
        have hlm : i < os.length := (List.getElem?_eq_some_iff.1 ho).1
        rw [List.getElem?_eq_none_iff] at hp
        omega
      | some p => exact ih m hlt p hp (hD m p hp hDm) j h
end masks

/-- The value that a slot has for operation i, if it is known: that of the last operation ahead of it in the text that writes it, else what it had. -/
def lastW (os : List Oper) : Nat → Nat → Option Nat
  | 0, _ => none
  | i + 1, t => match os[i]? with
    | some o => match goesTo o t with
      | true => some i
      | false => lastW os i t
    | none => lastW os i t
def look (os : List Oper) (E0 val : Env) (i t : Nat) : Option Value := match lastW os i t with
  | some j => Env.get val j
  | none => Env.get E0 t
def preL (os : List Oper) (E0 val : Env) (i : Nat) : List Nat → Env
  | [] => []
  | t :: ts => match look os E0 val i t with
    | some v => (t, v) :: preL os E0 val i ts
    | none => preL os E0 val i ts
/-- What is known of the slots that operation i reads. -/
def pre (os : List Oper) (E0 val : Env) (i : Nat) : Env := match os[i]? with
  | some o => preL os E0 val i (readsOf os o)
  | none => []
def finE : List Oper → Nat → Env → Env → Env
  | [], _, _, E => E
  | o :: os, i, val, E => finE os (i + 1) val (match o.dst, Env.get val i with
    | some d, some v => (d, v) :: E
    | _, _ => E)
/-- An operation's guard is met, is not met. -/
def wantsB (os : List Oper) (E : Env) (g : Option (Nat × Bool)) (b : Bool) : Prop := match g with
  | none => b = true
  | some (j, want) => ∃ p t c, os[j]? = some p ∧ p.dst = some t ∧ Env.get E t = some (.bool c) ∧ (c == want) = b
def PureOne (X : Pt) (os : List Oper) (E0 val : Env) (H : List Seg) (i : Nat) (v : Value) : Prop :=
  ∃ o, os[i]? = some o ∧ dstOk X.n o.dst = true ∧ ((wantsB os (pre os E0 val i) o.guard true ∧ Does X (pre os E0 val i) H o.op (Is v H)) ∨ (wantsB os (pre os E0 val i) o.guard false ∧ v = undef))
/-- Of each that may be still ahead; what stands ahead of an act that has been done has been done. -/
def PureL (X : Pt) (os : List Oper) (E0 val xv : Env) (H : List Seg) : Env → Prop
  | [] => True
  | (i, v) :: r => ((xv.any fun p => befB (masks os []) i p.1) = true ∨ PureOne X os E0 val H i v) ∧ PureL X os E0 val xv H r
def isKnown (val : Env) (i : Nat) : Bool := (Env.get val i).isSome
def waits (os : List Oper) (val : Env) (e : Nat) : Bool := os.zipIdx.all fun (o, i) => isKnown val i || Nat.beq i e || (depsL o).any fun j => !isKnown val j
/-- The operations that act, one behind the other; pv: what the others give, xv: what the acts have given. -/
def Ph (X : Pt) (os : List Oper) (k : List Item) (E0 : Env) (ds : List Deferred) : List Nat → Env → Env → List Seg → Prop
  | [], pv, xv, H => PureL X os E0 (pv ++ xv) xv H pv ∧ (os.zipIdx.all fun (_, i) => isKnown (pv ++ xv) i) = true ∧ At X k (finE os 0 (pv ++ xv) E0) ds H
  | e :: es, pv, xv, H => PureL X os E0 (pv ++ xv) xv H pv ∧ ((e :: es).all fun x => !isKnown (pv ++ xv) x) = true ∧ (es.all fun x => !Nat.beq x e) = true ∧ waits os (pv ++ xv) e = true ∧
    ∃ o, os[e]? = some o ∧ dstOk X.n o.dst = true ∧ wantsB os (pre os E0 (pv ++ xv) e) o.guard true ∧ ∃ R, Does X (pre os E0 (pv ++ xv) e) H o.op R ∧
      ∀ v H', R v H' → ∃ pv', (pv'.all fun p => !isKnown (pv ++ xv) p.1 && !Nat.beq p.1 e) = true ∧ Ph X os k E0 ds es (pv' ++ pv) ((e, v) :: xv) H'

theorem get_mem {E : Env} {i : Nat} {v : Value} (h : Env.get E i = some v) : (i, v) ∈ E := by
  induction E with
  | nil => simp [Env.get] at h
  | cons p E ih =>
    simp only [Env.get] at h
    by_cases e : p.1 = i
    · subst e
      simp at h
      subst h
      simp
    · rw [beq_no e] at h
      simp [ih h]
theorem get_app (a b : Env) (i : Nat) : Env.get (a ++ b) i = match Env.get a i with | some v => some v | none => Env.get b i := by
  induction a with
  | nil => rfl
  | cons p a ih =>
    simp only [List.cons_append, Env.get]
    cases Nat.beq p.1 i <;> simp [ih]
theorem PureL.get {X : Pt} {os : List Oper} {E0 val xv : Env} {H : List Seg} {pv : Env} (h : PureL X os E0 val xv H pv) {i : Nat} {v : Value} (hi : Env.get pv i = some v) : (xv.any fun p => befB (masks os []) i p.1) = true ∨ PureOne X os E0 val H i v := by
  induction pv with
  | nil => simp [Env.get] at hi
  | cons p pv ih =>
    obtain ⟨j, u⟩ := p
    simp only [Env.get] at hi
    by_cases e : j = i
    · subst e
      simp at hi
      subst hi
      exact h.1
    · rw [beq_no e] at hi
      exact ih h.2 hi

theorem lastW_some {os : List Oper} {i t j : Nat} (h : lastW os i t = some j) : j < i ∧ (∃ o, os[j]? = some o ∧ goesTo o t = true) ∧ ∀ m, j < m → m < i → ∀ o, os[m]? = some o → goesTo o t = false := by
  induction i with
  | zero => simp [lastW] at h
  | succ i ih =>
    simp only [lastW] at h
    cases ho : os[i]? with
    | none =>
      rw [ho] at h
      obtain ⟨h1, h2, h3⟩ := ih h
      refine ⟨by omega, h2, fun m hm1 hm2 o hom => ?_⟩
      by_cases e : m = i
      · subst e; rw [ho] at hom; cases hom
      · exact h3 m hm1 (by omega) o hom
    | some o =>
      rw [ho] at h
      simp only at h
      cases hg : goesTo o t with
      | true =>
        rw [hg] at h
        simp at h
        subst h
        exact ⟨by omega, ⟨o, ho, hg⟩, fun m hm1 hm2 => by omega⟩
      | false =>
        rw [hg] at h
        obtain ⟨h1, h2, h3⟩ := ih h
        refine ⟨by omega, h2, fun m hm1 hm2 o' hom => ?_⟩
        by_cases e : m = i
        · subst e; rw [ho] at hom; cases hom; exact hg
        · exact h3 m hm1 (by omega) o' hom
theorem lastW_none {os : List Oper} {i t : Nat} (h : lastW os i t = none) : ∀ m, m < i → ∀ o, os[m]? = some o → goesTo o t = false := by
  induction i with
  | zero => intro m hm; omega
  | succ i ih =>
    simp only [lastW] at h
    intro m hm o hom
    cases ho : os[i]? with
    | none =>
      rw [ho] at h
      by_cases e : m = i
      · subst e; rw [ho] at hom; cases hom
      · exact ih h m (by omega) o hom
    | some o' =>
      rw [ho] at h
      simp only at h
      cases hg : goesTo o' t with
      | true => rw [hg] at h; cases h
      | false =>
        rw [hg] at h
        by_cases e : m = i
        · subst e; rw [ho] at hom; cases hom; exact hg
        · exact ih h m (by omega) o hom

/-- What the slots hold when the operations in D have been done. -/
structure AgD (n : Nat) (os : List Oper) (E0 val : Env) (D : Nat → Prop) (a : Array Value) : Prop where
  size : a.size = n
  done : ∀ j o t v, D j → os[j]? = some o → o.dst = some t → (∀ m, j < m → D m → ∀ p, os[m]? = some p → goesTo p t = false) → Env.get val j = some v → a.getD t undef = v
  old : ∀ t v, (∀ m, D m → ∀ p, os[m]? = some p → goesTo p t = false) → Env.get E0 t = some v → a.getD t undef = v
theorem goesTo_iff {o : Oper} {t : Nat} : goesTo o t = true ↔ o.dst = some t := by
  unfold goesTo
  cases o.dst with
  | none => simp
  | some d =>
    simp only [Option.some.injEq]
    constructor
    · exact Nat.eq_of_beq_eq_true
    · rintro rfl; simp
theorem okTmps_get {os : List Oper} (h : okTmps os = true) {i j : Nat} {o p : Oper} (hi : os[i]? = some o) (hj : os[j]? = some p) (hne : i ≠ j) {t : Nat} (hp : p.dst = some t) (ht : t ∈ readsOf os o ∨ o.dst = some t) :
    (j < i → befB (masks os []) j i = true) ∧ (i < j → befB (masks os []) i j = true) := by
  have h1 := List.all_eq_true.1 h (o, i) (List.mem_iff_getElem?.2 ⟨i, by simp [List.getElem?_zipIdx, hi]⟩)
  have h2 := List.all_eq_true.1 h1 (p, j) (List.mem_iff_getElem?.2 ⟨j, by simp [List.getElem?_zipIdx, hj]⟩)
  unfold okPair at h2
  simp only [beq_no hne, hp] at h2
  have hc : ((readsOf os o).any (Nat.beq t) || goesTo o t) = true := by
    rw [Bool.or_eq_true]
    rcases ht with ht | ht
    · left
      rw [List.any_eq_true]
      exact ⟨t, ht, by simp⟩
    · right
      exact goesTo_iff.2 ht
  simp only [Bool.false_or, hc, Bool.not_true] at h2
  constructor
  · intro hlt
    have hb : Nat.blt j i = true := by simp [Nat.blt]; omega
    rw [hb] at h2
    simpa using h2
  · intro hlt
    have hb : Nat.blt j i = false := by
      cases hb : Nat.blt j i with
      | false => rfl
      | true => have := blt_lt hb; omega
    rw [hb] at h2
    simpa using h2

section
variable {os : List Oper} {E0 val : Env} {D : Nat → Prop} {a : Array Value} {n : Nat}
/-- What is known of the slots that a ready operation reads. -/
theorem AgD.pre (h : AgD n os E0 val D a) (hok : okTmps os = true) (hdl : okDeps os = true) (hD : ∀ i o, os[i]? = some o → D i → ∀ j ∈ depsL o, D j) {i : Nat} {o : Oper} (ho : os[i]? = some o) (hn : ¬ D i) (hr : ∀ j ∈ depsL o, D j) : Agree n a (pre os E0 val i) := by
  refine ⟨h.size, ?_⟩
  have key : ∀ ts : List Nat, (∀ t ∈ ts, t ∈ readsOf os o) → ∀ t v, Env.get (preL os E0 val i ts) t = some v → a.getD t undef = v := by
    intro ts
    induction ts with
    | nil => intro _ t v hv; simp [preL, Env.get] at hv
    | cons t0 ts ih =>
      intro hts t v hv
      simp only [preL] at hv
      have hts' : ∀ t ∈ ts, t ∈ readsOf os o := fun t ht => hts t (by simp [ht])
      cases hl : look os E0 val i t0 with
      | none => rw [hl] at hv; exact ih hts' t v hv
      | some u =>
        rw [hl] at hv
        simp only [Env.get] at hv
        by_cases e : t0 = t
        · subst e
          simp at hv
          subst hv
          have hread := hts t0 (by simp)
          have later : ∀ m, i < m → D m → ∀ p, os[m]? = some p → goesTo p t0 = false := by
            intro m hm hDm p hp
            cases hg : goesTo p t0 with
            | false => rfl
            | true =>
              have := (okTmps_get hok ho hp (by omega) (goesTo_iff.1 hg) (.inl hread)).2 hm
              exact absurd (bef_done hD hdl m p hp (hD m p hp hDm) i this) hn
          unfold look at hl
          cases hw : lastW os i t0 with
          | none =>
            rw [hw] at hl
            refine h.old t0 u (fun m hDm p hp => ?_) hl
            rcases Nat.lt_trichotomy m i with hm | hm | hm
            · exact lastW_none hw m hm p hp
            · subst hm; exact absurd hDm hn
            · exact later m hm hDm p hp
          | some j =>
            rw [hw] at hl
            obtain ⟨hj, ⟨p, hp, hg⟩, hbetween⟩ := lastW_some hw
            have hbef := (okTmps_get hok ho hp (by omega) (goesTo_iff.1 hg) (.inl hread)).1 hj
            have hDj := bef_done hD hdl i o ho hr j hbef
            refine h.done j p t0 u hDj hp (goesTo_iff.1 hg) (fun m hm hDm q hq => ?_) hl
            rcases Nat.lt_trichotomy m i with hm2 | hm2 | hm2
            · exact hbetween m hm hm2 q hq
            · subst hm2; exact absurd hDm hn
            · exact later m hm2 hDm q hq
        · rw [beq_no e] at hv
          exact ih hts' t v hv
  intro t v hv
  unfold Proofs.YtlkdmbpbjhjkfaaGreatDoor.pre at hv
  rw [ho] at hv
  exact key _ (fun t ht => ht) t v hv
/-- One more has been done. -/
theorem AgD.step (h : AgD n os E0 val D a) (hok : okTmps os = true) (hdl : okDeps os = true) (hD : ∀ i o, os[i]? = some o → D i → ∀ j ∈ depsL o, D j) {i : Nat} {o : Oper} (ho : os[i]? = some o) (hn : ¬ D i) (hd : dstOk n o.dst = true) {v : Value} (hv : Env.get val i = some v) :
    AgD n os E0 val (fun j => D j ∨ j = i) (putA a o.dst v) := by
  have apart : ∀ m p t, D m → os[m]? = some p → p.dst = some t → o.dst = some t → m < i := by
    intro m p t hDm hp hpd hod
    rcases Nat.lt_trichotomy m i with hm | hm | hm
    · exact hm
    · subst hm; exact absurd hDm hn
    · have := (okTmps_get hok ho hp (by omega) hpd (.inr hod)).2 hm
      exact absurd (bef_done hD hdl m p hp (hD m p hp hDm) i this) hn
  have other : ∀ t, o.dst ≠ some t → (putA a o.dst v).getD t undef = a.getD t undef := by
    intro t ht
    cases hod : o.dst with
    | none => rfl
    | some d =>
      have : d ≠ t := by rintro rfl; exact ht hod
      simp only [putA, Array.getD_eq_getD_getElem?, Array.getElem?_setIfInBounds, if_neg this]
  refine ⟨?_, ?_, ?_⟩
  · cases o.dst <;> simp [putA, h.size]
  · intro j p t u hDj hp hpd hlast hu
    by_cases e : j = i
    · subst e
      rw [ho] at hp
      cases hp
      rw [hv] at hu
      cases hu
      rw [hpd] at hd ⊢
      have hlt := blt_lt hd
      simp [putA, Array.getD_eq_getD_getElem?, h.size, hlt]
    · have hDj : D j := hDj.resolve_right e
      have hne : o.dst ≠ some t := by
        intro hod
        have hlt := apart j p t hDj hp hpd hod
        have := hlast i hlt (.inr rfl) o ho
        rw [goesTo_iff.2 hod] at this
        cases this
      rw [other t hne]
      exact h.done j p t u hDj hp hpd (fun m hm hDm q hq => hlast m hm (.inl hDm) q hq) hu
  · intro t u hno hu
    have hne : o.dst ≠ some t := by
      intro hod
      have := hno i (.inr rfl) o ho
      rw [goesTo_iff.2 hod] at this
      cases this
    rw [other t hne]
    exact h.old t u (fun m hDm p hp => hno m (.inl hDm) p hp) hu
/-- All have been done. -/
theorem AgD.fin (h : AgD n os E0 val D a) (hall : ∀ i o, os[i]? = some o → D i) (hk : ∀ i o, os[i]? = some o → (Env.get val i).isSome = true) : Agree n a (finE os 0 val E0) := by
  refine ⟨h.size, ?_⟩
  have key : ∀ (l : List Oper) (i : Nat) (E : Env), (∀ m, l[m]? = os[i + m]?) → (∀ t v, Env.get E t = some v → (∀ m, i ≤ m → ∀ p, os[m]? = some p → goesTo p t = false) → a.getD t undef = v) → ∀ t v, Env.get (finE l i val E) t = some v → a.getD t undef = v := by
    intro l
    induction l with
    | nil =>
      intro i E hl hE t v hv
      refine hE t v hv (fun m hm p hp => ?_)
      have := hl (m - i)
      rw [show i + (m - i) = m from by omega, hp] at this
      simp at this
    | cons o l ih =>
      intro i E hl hE t v hv
      have ho : os[i]? = some o := by have := hl 0; simpa using this.symm
      rw [finE] at hv
      refine ih (i + 1) _ (fun m => ?_) (fun t' u hu hno => ?_) t v hv
      · have := hl (m + 1)
        rw [List.getElem?_cons_succ] at this
        rw [this]; congr 1; omega
      · cases hd : o.dst with
        | none =>
          rw [hd] at hu
          refine hE t' u hu (fun m hm p hp => ?_)
          by_cases e : m = i
          · subst e; rw [ho] at hp; cases hp; simp [goesTo, hd]
          · exact hno m (by omega) p hp
        | some d =>
          have hsome := hk i o ho
          cases hg : Env.get val i with
          | none => rw [hg] at hsome; cases hsome
          | some x =>
            rw [hd, hg] at hu
            simp only [Env.get] at hu
            by_cases e : d = t'
            · subst e
              simp at hu
              subst hu
              exact h.done i o d x (hall i o ho) ho hd (fun m hm hDm p hp => hno m (by omega) p hp) hg
            · rw [beq_no e] at hu
              refine hE t' u hu (fun m hm p hp => ?_)
              by_cases e2 : m = i
              · subst e2; rw [ho] at hp; cases hp
                unfold goesTo; rw [hd]; exact beq_no e
              · exact hno m (by omega) p hp
  refine key os 0 E0 (fun m => by simp) (fun t v hv hno => ?_)
  exact h.old t v (fun m _ p hp => hno m (Nat.zero_le _) p hp) hv
end

/-- The listed ones. -/
def Dn (l : Array Bool) (i : Nat) : Prop := l.getD i false = true
theorem ready_mem {ops : Array Oper} {l : Array Bool} {i : Nat} (h : i ∈ Region.ready .any ops l) : ∃ o, ops[i]? = some o ∧ l.getD i true = false ∧ ∀ j ∈ depsL o, Dn l j := by
  unfold Region.ready at h
  rw [List.mem_filter] at h
  obtain ⟨h1, h2⟩ := h
  rw [Bool.and_eq_true, Bool.not_eq_true'] at h2
  obtain ⟨h2, h3⟩ := h2
  cases ho : ops[i]? with
  | none => rw [ho] at h3; simp at h3
  | some o =>
    rw [ho] at h3
    simp only [Option.map_some, Option.getD_some] at h3
    refine ⟨o, rfl, h2, fun j hj => ?_⟩
    obtain ⟨e, he, rfl⟩ := List.mem_map.1 hj
    rw [List.mem_filter] at he
    have := Array.all_eq_true_iff_forall_mem.1 h3 e (by simpa using he.1)
    rw [he.2] at this
    simpa [Dn, Array.getD_eq_getD_getElem?] using this
theorem count_more (f : Nat → Bool) (i : Nat) (hf : f i = false) : ∀ (r : List Nat), r.Nodup → i ∈ r → (r.filter fun j => (f j || Nat.beq j i)).length = (r.filter f).length + 1 := by
  intro r
  induction r with
  | nil => intro _ h; cases h
  | cons b r ihr =>
    intro hnd2 hm
    rw [List.nodup_cons] at hnd2
    by_cases e : b = i
    · subst e
      have hsame2 : (r.filter fun j => (f j || Nat.beq j b)) = r.filter f := by
        apply List.filter_congr
        intro j hj
        have : j ≠ b := by rintro rfl; exact hnd2.1 hj
        rw [beq_no this]; simp
      rw [List.filter_cons, List.filter_cons, hf, hsame2]
      simp
    · have hm' : i ∈ r := by simpa [Ne.symm e] using hm
      have := ihr hnd2.2 hm'
      rw [List.filter_cons, List.filter_cons, beq_no e, Bool.or_false]
      cases f b <;> simp [this]
theorem not_dn {l : Array Bool} {i : Nat} (h : l.getD i true = false) : ¬ Dn l i := by
  unfold Dn
  rw [Array.getD_eq_getD_getElem?] at h ⊢
  cases hi : l[i]? with
  | none => simp
  | some b => rw [hi] at h; simp at h; subst h; simp
theorem dn_set {l : Array Bool} {i : Nat} (hi : i < l.size) (j : Nat) : Dn (l.setIfInBounds i true) j ↔ Dn l j ∨ j = i := by
  unfold Dn
  rw [Array.getD_eq_getD_getElem?, Array.getD_eq_getD_getElem?, Array.getElem?_setIfInBounds]
  by_cases e : i = j
  · subst e
    simp [hi]
  · rw [if_neg e]
    constructor
    · exact .inl
    · rintro (h | h)
      · exact h
      · exact absurd h.symm e
/-- If none is ready, all are done. -/
theorem all_done {ops : Array Oper} {l : Array Bool} (hdl : okDeps ops.toList = true) (hs : l.size = ops.size) (h : Region.ready .any ops l = []) : ∀ i o, ops.toList[i]? = some o → Dn l i := by
  intro i
  induction i using Nat.strongRecOn with
  | _ i ih =>
    intro o ho
    have hlt : i < ops.size := by have := (List.getElem?_eq_some_iff.1 ho).1; simpa using this
    cases hb : l.getD i true with
    | true =>
      unfold Dn
      rw [Array.getD_eq_getD_getElem?] at hb ⊢
      rw [Array.getElem?_eq_getElem (by omega)] at hb ⊢
      simpa using hb
    | false =>
      exfalso
      have hdeps : ∀ j ∈ depsL o, Dn l j := by
        intro j hj
        have h1 := List.all_eq_true.1 hdl (o, i) (List.mem_iff_getElem?.2 ⟨i, by simp [List.getElem?_zipIdx, ho]⟩)
        have hlt := blt_lt (List.all_eq_true.1 h1 j hj)
        have hlen : j < ops.toList.length := by simpa using (show j < ops.size by omega)
        exact ih j hlt ops.toList[j] (List.getElem?_eq_getElem hlen)
      have hmem : i ∈ Region.ready .any ops l := by
        unfold Region.ready
        rw [List.mem_filter]
        refine ⟨List.mem_range.2 hlt, ?_⟩
        rw [Bool.and_eq_true, hb]
        refine ⟨rfl, ?_⟩
        have ho' : ops[i]? = some o := by rw [← Array.getElem?_toList]; exact ho
        rw [ho']
        simp only [Option.map_some, Option.getD_some]
        rw [Array.all_eq_true_iff_forall_mem]
        intro e he
        rw [Bool.or_eq_true, Bool.not_eq_true']
        cases hbd : Region.binds .any e with
        | false => exact .inl rfl
        | true => exact .inr (hdeps e.on (List.mem_map.2 ⟨e, List.mem_filter.2 ⟨by simpa using he, hbd⟩, rfl⟩))
      rw [h] at hmem
      cases hmem

section
variable {X : Pt} {k : List Item} {E0 : Env} {ds : List Deferred} {ops : Array Oper}
theorem wants_true {val : Env} {i : Nat} {o : Oper} {a : Array Value} (ha : Agree X.n a (pre ops.toList E0 val i)) (hn : ∀ t v, Env.get (pre ops.toList E0 val i) t = some v → t < X.n) (h : wantsB ops.toList (pre ops.toList E0 val i) o.guard true) : Region.wanted o (yielded ops a) = true := by
  unfold wantsB at h
  cases hg : o.guard with
  | none => simp [Region.wanted, hg]
  | some gw =>
    obtain ⟨j, want⟩ := gw
    rw [hg] at h
    obtain ⟨p, t, c, hp, hpd, hc, hcw⟩ := h
    have hp' : ops[j]? = some p := by rw [← Array.getElem?_toList]; exact hp
    have := yielded_of (ops := ops) (j := j) (t := t) ha (by rw [hp']; exact hpd) (by have := hn t _ hc; simp [Nat.blt]; omega) hc
    simp only [Region.wanted, hg, this]
    simpa using hcw
theorem wants_false {val : Env} {i : Nat} {o : Oper} {a : Array Value} (ha : Agree X.n a (pre ops.toList E0 val i)) (hn : ∀ t v, Env.get (pre ops.toList E0 val i) t = some v → t < X.n) (h : wantsB ops.toList (pre ops.toList E0 val i) o.guard false) : Region.wanted o (yielded ops a) = false := by
  unfold wantsB at h
  cases hg : o.guard with
  | none => rw [hg] at h; cases h
  | some gw =>
    obtain ⟨j, want⟩ := gw
    rw [hg] at h
    obtain ⟨p, t, c, hp, hpd, hc, hcw⟩ := h
    have hp' : ops[j]? = some p := by rw [← Array.getElem?_toList]; exact hp
    have := yielded_of (ops := ops) (j := j) (t := t) ha (by rw [hp']; exact hpd) (by have := hn t _ hc; simp [Nat.blt]; omega) hc
    simp only [Region.wanted, hg, this]
    cases c <;> cases want <;> simp_all
theorem draw_go (hok : okTmps ops.toList = true) (hdl : okDeps ops.toList = true) (hrd : (ops.toList.all fun o => (readsOf ops.toList o).all fun t => Nat.blt t X.n) = true) :
    ∀ (fuel t : Nat) (l : Array Bool) (es : List Nat) (pv xv : Env) (H : List Seg) (a : Array Value) (w : World), l.size = ops.size → (∀ i o, ops.toList[i]? = some o → Dn l i → ∀ j ∈ depsL o, Dn l j) →
      (∀ i o, ops.toList[i]? = some o → Dn l i → isKnown (pv ++ xv) i = true) → (∀ p ∈ xv, Dn l p.1) → (∀ e ∈ es, ¬ Dn l e) →
      (ops.size ≤ fuel + ((List.range ops.size).filter fun i => l.getD i false).length) → Ph X ops.toList k E0 ds es pv xv H → AgD X.n ops.toList E0 (pv ++ xv) (Dn l) a → Sep X.w0 X.base w H →
      Ev X.P (lone (X.c.fr a ds (.inRegion ops (Region.linearise.go .any ops fuel t l []) :: k)) X.cs w) X.G := by
  intro fuel
  induction fuel with
  | zero =>
    intro t l es pv xv H a w hs hcl hkn hxv hes hf hp ha S
    have hall : ∀ i o, ops.toList[i]? = some o → Dn l i := by
      intro i o ho
      have hlt : i < ops.size := by have := (List.getElem?_eq_some_iff.1 ho).1; simpa using this
      have hle : ((List.range ops.size).filter fun i => l.getD i false).length ≤ ops.size := by
        have := List.length_filter_le (fun i => l.getD i false) (List.range ops.size)
        simpa using this
      have heq : ((List.range ops.size).filter fun i => l.getD i false).length = (List.range ops.size).length := by rw [List.length_range]; omega
      have := List.length_filter_eq_length_iff.1 heq i (List.mem_range.2 hlt)
      exact this
    cases es with
    | cons e es =>
      obtain ⟨_, _, _, _, o, ho, _⟩ := hp
      exact absurd (hall e o ho) (hes e (by simp))
    | nil =>
      obtain ⟨_, hkn2, hat⟩ := hp
      simp only [Region.linearise.go, List.reverse_nil]
      refine .step go_region_end (hat a w (ha.fin hall (fun i o ho => ?_)) S)
      exact hkn i o ho (hall i o ho)
  | succ fuel ih =>
    intro t l es pv xv H a w hs hcl hkn hxv hes hf hp ha S
    simp only [Region.linearise.go]
    split
    · rename_i i hi
      rw [linearise_go_acc]
      simp only [List.reverse_cons, List.reverse_nil, List.nil_append, List.singleton_append]
      have hmem : i ∈ Region.ready .any ops l := List.mem_iff_getElem?.2 ⟨_, hi⟩
      obtain ⟨o, ho, hnl, hdeps⟩ := ready_mem hmem
      have hnd := not_dn hnl
      have hoL : ops.toList[i]? = some o := by rw [Array.getElem?_toList]; exact ho
      have hlt : i < ops.size := (Array.getElem?_eq_some_iff.1 ho).1
      have hAg := ha.pre hok hdl hcl hoL hnd hdeps
      have hprelt : ∀ t v, Env.get (pre ops.toList E0 (pv ++ xv) i) t = some v → t < X.n := by
        have h1 := List.all_eq_true.1 hrd o (List.mem_iff_getElem?.2 ⟨i, hoL⟩)
        have key : ∀ ts : List Nat, (∀ t ∈ ts, t < X.n) → ∀ t v, Env.get (preL ops.toList E0 (pv ++ xv) i ts) t = some v → t < X.n := by
          intro ts
          induction ts with
          | nil => intro _ t v hv; simp [preL, Env.get] at hv
          | cons t0 ts ih =>
            intro hts t v hv
            simp only [preL] at hv
            split at hv
            · simp only [Env.get] at hv
              by_cases e : t0 = t
              · subst e; exact hts t0 (by simp)
              · rw [beq_no e] at hv
                exact ih (fun t ht => hts t (by simp [ht])) t v hv
            · exact ih (fun t ht => hts t (by simp [ht])) t v hv
        intro t v hv
        unfold pre at hv
        rw [hoL] at hv
        exact key _ (fun t ht => blt_lt (List.all_eq_true.1 h1 t ht)) t v hv
      -- what is the same in each case behind the operation
      have after : ∀ (es' : List Nat) (pv' xv' : Env) (H' : List Seg) (v : Value) (w' : World), Ph X ops.toList k E0 ds es' pv' xv' H' → Sep X.w0 X.base w' H' → dstOk X.n o.dst = true → Env.get (pv' ++ xv') i = some v →
          (∀ j, isKnown (pv ++ xv) j = true → Env.get (pv' ++ xv') j = Env.get (pv ++ xv) j) → (∀ p ∈ xv', Dn l p.1 ∨ p.1 = i) → (∀ e ∈ es', e ≠ i ∧ ¬ Dn l e) →
          Ev X.P (lone (X.c.fr (putA a o.dst v) ds (.inRegion ops (Region.linearise.go .any ops fuel (t / (Region.ready .any ops l).length) (l.setIfInBounds i true) []) :: k)) X.cs w') X.G := by
        intro es' pv' xv' H' v w' hp' S' hd hv hsame hxv' hes'
        have hds := dn_set (l := l) (i := i) (by omega)
        have hAgD : AgD X.n ops.toList E0 (pv' ++ xv') (Dn l) a := by
          refine ⟨ha.size, fun j p t u hDj hp hpd hlast hu => ?_, ha.old⟩
          refine ha.done j p t u hDj hp hpd hlast ?_
          rw [← hsame j (hkn j p hp hDj)]
          exact hu
        have hst := hAgD.step hok hdl hcl hoL hnd hd hv
        refine ih _ _ es' pv' xv' H' _ w' (by simpa using hs) ?_ ?_ ?_ ?_ ?_ hp' ?_ S'
        · intro j p hj hDj m hm
          rw [hds] at hDj ⊢
          rcases hDj with hDj | rfl
          · exact .inl (hcl j p hj hDj m hm)
          · rw [hoL] at hj; cases hj
            exact .inl (hdeps m hm)
        · intro j p hj hDj
          rw [hds] at hDj
          rcases hDj with hDj | rfl
          · have := hkn j p hj hDj
            unfold isKnown at this ⊢
            rw [hsame j this]; exact this
          · unfold isKnown; rw [hv]; rfl
        · intro p hp
          rw [hds]; exact hxv' p hp
        · intro e he hDe
          rw [hds] at hDe
          rcases hDe with h | h
          · exact (hes' e he).2 h
          · exact (hes' e he).1 h
        · have hcount : ((List.range ops.size).filter fun j => (l.setIfInBounds i true).getD j false).length = ((List.range ops.size).filter fun j => l.getD j false).length + 1 := by
            have hp : ∀ j, (l.setIfInBounds i true).getD j false = (l.getD j false || Nat.beq j i) := by
              intro j
              have : (l.setIfInBounds i true).getD j false = true ↔ l.getD j false = true ∨ j = i := hds j
              rw [Bool.eq_iff_iff, Bool.or_eq_true, this]
              constructor
              · rintro (h | h)
                · exact .inl h
                · exact .inr (by subst h; simp)
              · rintro (h | h)
                · exact .inl h
                · exact .inr (Nat.eq_of_beq_eq_true h)
            have hif : l.getD i false = false := by
              cases hb : l.getD i false with
              | false => rfl
              | true => exact absurd hb hnd
            have hset : (List.range ops.size).filter (fun j => (l.setIfInBounds i true).getD j false) = (List.range ops.size).filter fun j => ((fun j => l.getD j false) j || Nat.beq j i) := List.filter_congr fun j _ => hp j
            rw [hset]
            exact count_more _ i hif _ List.nodup_range (List.mem_range.2 hlt)
          omega
        · refine ⟨hst.size, ?_, ?_⟩
          · intro j p t u hDj hp hpd hlast hu
            exact hst.done j p t u ((hds j).1 hDj) hp hpd (fun m hm hDm q hq => hlast m hm ((hds m).2 hDm) q hq) hu
          · intro t u hno hu
            exact hst.old t u (fun m hDm p hp => hno m ((hds m).2 hDm) p hp) hu
      -- an operation whose value is known in this phase
      have pureCase : ∀ v, Env.get pv i = some v → PureL X ops.toList E0 (pv ++ xv) xv H pv → i ∉ es →
          Ev X.P (lone (X.c.fr a ds (.inRegion ops (i :: Region.linearise.go .any ops fuel (t / (Region.ready .any ops l).length) (l.setIfInBounds i true) []) :: k)) X.cs w) X.G := by
        intro v hv hpl hne
        have hone : PureOne X ops.toList E0 (pv ++ xv) H i v := by
          rcases hpl.get hv with h | h
          · obtain ⟨p, hp1, hp2⟩ := List.any_eq_true.1 h
            have hDp := hxv p hp1
            cases hop : ops.toList[p.1]? with
            | none =>
              exfalso
              have hlen : (masks ops.toList []).length = ops.toList.length := by have := masks_len ops.toList []; simpa using this
              have hnone : (masks ops.toList []).getD p.1 0 = 0 := by
                rw [List.getElem?_eq_none_iff] at hop
                simp [List.getD, List.getElem?_eq_none (show (masks ops.toList []).length ≤ p.1 by omega)]
              unfold befB at hp2
              rw [hnone] at hp2
              simp at hp2
            | some q => exact absurd (bef_done hcl hdl p.1 q hop (hcl p.1 q hop hDp) i hp2) hnd
          · exact h
        obtain ⟨o', ho', hd, hor⟩ := hone
        rw [hoL] at ho'; cases ho'
        have hget : Env.get (pv ++ xv) i = some v := by rw [get_app, hv]
        have hcont := fun (w' : World) (S' : Sep X.w0 X.base w' H) => after es pv xv H v w' hp S' hd hget (fun j _ => rfl) (fun p hp => .inl (hxv p hp)) (fun e he => ⟨fun h => hne (h ▸ he), hes e he⟩)
        rcases hor with ⟨hw, hdo⟩ | ⟨hw, rfl⟩
        · obtain ⟨v', H', w', ⟨rfl, rfl⟩, S', hst⟩ := hdo o.dst o.type o.pos o.after o.guard ops i _ k ds a w ho (wants_true hAg hprelt hw) (fun x u hx => hAg.ev hx) S
          exact .steps hst (hcont w' S')
        · exact .step (go_op_skip ho (wants_false hAg hprelt hw)) (hcont w S)
      cases es with
      | nil =>
        obtain ⟨hpl, hall, hat⟩ := hp
        have hk1 := List.all_eq_true.1 hall (o, i) (List.mem_iff_getElem?.2 ⟨i, by simp [List.getElem?_zipIdx, hoL]⟩)
        have hk1 : isKnown (pv ++ xv) i = true := hk1
        cases hv : Env.get pv i with
        | some v => exact pureCase v hv hpl (by simp)
        | none =>
          unfold isKnown at hk1
          rw [get_app, hv] at hk1
          cases hx : Env.get xv i with
          | none => rw [hx] at hk1; cases hk1
          | some u => exact absurd (hxv _ (get_mem hx)) hnd
      | cons e es =>
        have hp0 := hp
        obtain ⟨hpl, hek, hnd2, hwt, oe, hoe, hd, hw, R, hdo, hR⟩ := hp
        have hunk : ∀ x ∈ e :: es, Env.get (pv ++ xv) x = none := by
          intro x hx
          have := List.all_eq_true.1 hek x hx
          unfold isKnown at this
          cases hg : Env.get (pv ++ xv) x with
          | none => rfl
          | some u => rw [hg] at this; cases this
        by_cases hie : i = e
        · subst hie
          rw [hoL] at hoe; cases hoe
          obtain ⟨v, H', w', hRv, S', hst⟩ := hdo o.dst o.type o.pos o.after o.guard ops i (Region.linearise.go .any ops fuel (t / (Region.ready .any ops l).length) (l.setIfInBounds i true) []) k ds a w ho (wants_true hAg hprelt hw) (fun x u hx => hAg.ev hx) S
          obtain ⟨pv', hpv', hp'⟩ := hR v H' hRv
          refine .steps hst ?_
          have hfresh : ∀ j u, Env.get pv' j = some u → Env.get (pv ++ xv) j = none ∧ j ≠ i := by
            intro j u hj
            have hm : ∃ p ∈ pv', p.1 = j := by
              clear hp' hpv'
              induction pv' with
              | nil => simp [Env.get] at hj
              | cons p pv' ihp =>
                simp only [Env.get] at hj
                by_cases e : p.1 = j
                · exact ⟨p, by simp, e⟩
                · rw [beq_no e] at hj
                  obtain ⟨q, hq, hq2⟩ := ihp hj
                  exact ⟨q, by simp [hq], hq2⟩
            obtain ⟨p, hp1, rfl⟩ := hm
            have := List.all_eq_true.1 hpv' p hp1
            rw [Bool.and_eq_true, Bool.not_eq_true', Bool.not_eq_true'] at this
            refine ⟨?_, ?_⟩
            · have h1 := this.1
              unfold isKnown at h1
              cases hg : Env.get (pv ++ xv) p.1 with
              | none => rfl
              | some u => rw [hg] at h1; cases h1
            · intro e
              have h2 := this.2
              rw [e] at h2
              simp at h2
          have hi0 := hunk i (by simp)
          have hpi : Env.get pv i = none := by
            rw [get_app] at hi0
            cases hg : Env.get pv i with
            | none => rfl
            | some u => rw [hg] at hi0; cases hi0
          have hget : Env.get ((pv' ++ pv) ++ ((i, v) :: xv)) i = some v := by
            rw [get_app, get_app]
            cases hg : Env.get pv' i with
            | some u => exact absurd rfl (hfresh i u hg).2
            | none => simp [hpi, Env.get]
          refine after es _ _ H' v w' hp' S' hd hget ?_ ?_ ?_
          · intro j hj
            have hj0 : Env.get (pv ++ xv) j ≠ none := by
              unfold isKnown at hj
              intro h; rw [h] at hj; cases hj
            have hji : j ≠ i := by rintro rfl; exact hj0 hi0
            rw [get_app, get_app, get_app]
            cases hg : Env.get pv' j with
            | some u => exact absurd (hfresh j u hg).1 hj0
            | none =>
              cases hg2 : Env.get pv j with
              | some u => rfl
              | none => simp only [Env.get, beq_no (Ne.symm hji)]
          · intro p hp
            rcases List.mem_cons.1 hp with rfl | hp
            · exact .inr rfl
            · exact .inl (hxv p hp)
          · intro e he
            refine ⟨?_, hes e (by simp [he])⟩
            rintro rfl
            have := List.all_eq_true.1 hnd2 e he
            simp at this
        · have hk1 := List.all_eq_true.1 hwt (o, i) (List.mem_iff_getElem?.2 ⟨i, by simp [List.getElem?_zipIdx, hoL]⟩)
          have hk1 : (isKnown (pv ++ xv) i || Nat.beq i e || (depsL o).any fun j => !isKnown (pv ++ xv) j) = true := hk1
          have hany : ((depsL o).any fun j => !isKnown (pv ++ xv) j) = false := by
            cases hb : ((depsL o).any fun j => !isKnown (pv ++ xv) j) with
            | false => rfl
            | true =>
              obtain ⟨j, hj, hjk⟩ := List.any_eq_true.1 hb
              have hDj := hdeps j hj
              have hjlt : j < i := by
                have h1 := List.all_eq_true.1 hdl (o, i) (List.mem_iff_getElem?.2 ⟨i, by simp [List.getElem?_zipIdx, hoL]⟩)
                exact blt_lt (List.all_eq_true.1 h1 j hj)
              have hjl : j < ops.toList.length := by simpa using (show j < ops.size by omega)
              have := hkn j _ (List.getElem?_eq_getElem hjl) hDj
              rw [this] at hjk; cases hjk
          rw [beq_no hie, hany, Bool.or_false, Bool.or_false] at hk1
          have hnes : i ∉ e :: es := by
            intro hm
            have := hunk i hm
            unfold isKnown at hk1
            rw [this] at hk1; cases hk1
          cases hv : Env.get pv i with
          | some v => exact pureCase v hv hpl hnes
          | none =>
            unfold isKnown at hk1
            rw [get_app, hv] at hk1
            cases hx : Env.get xv i with
            | none => rw [hx] at hk1; cases hk1
            | some u => exact absurd (hxv _ (get_mem hx)) hnd
    · rename_i hnone
      have hempty : Region.ready .any ops l = [] := by
        cases hr : Region.ready .any ops l with
        | nil => rfl
        | cons b r =>
          have hlen : t % (Region.ready .any ops l).length < (Region.ready .any ops l).length := Nat.mod_lt _ (by rw [hr]; simp)
          exact absurd hnone (by
            show ¬ (Region.ready .any ops l)[t % (Region.ready .any ops l).length]? = none
            rw [List.getElem?_eq_getElem hlen]; simp)
      have hall := all_done hdl hs hempty
      cases es with
      | cons e es =>
        obtain ⟨_, _, _, _, o, ho, _⟩ := hp
        exact absurd (hall e o ho) (hes e (by simp))
      | nil =>
        obtain ⟨_, hkn2, hat⟩ := hp
        simp only [List.reverse_nil]
        refine .step go_region_end (hat a w (ha.fin hall (fun i o ho => ?_)) S)
        exact hkn i o ho (hall i o ho)
/-- A region that draws its order: what does not act is known ahead, what acts is in order. -/
theorem At.draw {id : Nat} {es : List Nat} {pv : Env} {H : List Seg} (hm : X.P.follows .mixedOrders = true) (hok : okTmps ops.toList = true) (hdl : okDeps ops.toList = true) (hrd : (ops.toList.all fun o => (readsOf ops.toList o).all fun t => Nat.blt t X.n) = true)
    (hp : Ph X ops.toList k E0 ds es pv [] H) : At X (.code (.region id ops true) :: k) E0 ds H := by
  intro a w ha S
  refine .step go_region_draw ?_
  have hno : ∀ i, ¬ Dn (Array.replicate ops.size false) i := by
    intro i hi
    unfold Dn at hi
    rw [Array.getD_eq_getD_getElem?, Array.getElem?_replicate] at hi
    split at hi <;> simp at hi
  unfold Region.schedule Region.linearise
  rw [hm, Bool.true_or, if_pos rfl]
  refine draw_go hok hdl hrd ops.size _ _ es pv [] H a _ (by simp) ?_ ?_ ?_ ?_ (Nat.le_add_right _ _) hp ⟨ha.size, ?_, ?_⟩ (S.drawn _)
  · exact fun i o _ h => absurd h (hno i)
  · exact fun i o _ h => absurd h (hno i)
  · intro p h; cases h
  · exact fun e _ => hno e
  · exact fun j o t v h => absurd h (hno j)
  · exact fun t v _ h => ha.get t v h
theorem Do.asBool {X : Pt} {E : Env} {H : List Seg} {op : Op} {b c : Bool} (h : Does X E H op (Is (.bool b) H)) (hb : b = c) : Does X E H op (Is (.bool c) H) := hb ▸ h
theorem Do.asInt {X : Pt} {E : Env} {H : List Seg} {op : Op} {kk : IntKind} {b c : Int} (h : Does X E H op (Is (.int kk b) H)) (hb : b = c) : Does X E H op (Is (.int kk c) H) := hb ▸ h
section
variable {X : Pt} {E : Env} {H : List Seg} {α : Type} {T : Ty α} {xt e : TypeId} {x : Operand} {lo hi mx : Option Operand} {A A' : Option Addr} {C C' : Nat} {l : List α}
/-- A part of a slice, its address, length and room named. -/
theorem Do.sliceX_ {n' : Nat} (i j m : Nat) (h1 : evBound E lo 0 i) (h2 : evBound E hi l.length j) (h3 : evBound E mx C m) (hmx : mx.isSome = true → hi.isSome = true) (hij : i ≤ j) (hjm : j ≤ m) (hm : m ≤ C)
    (hu : X.P.underlying xt = some (.slice e)) (hs : sizeN X.P e T.sz = true) (hx : ev E x = some (.slice A l.length C)) (hA : A' = (if m = i then A else A.map (·.add (i * T.sz)))) (hn : n' = j - i) (hC : C' = m - i) :
    Does X E H (.slice xt x lo hi mx) (Is (.slice A' n' C') H) :=
  Does.core rfl (fun dst ty pos after g ρ w hρ S => ⟨_, w, H, slice_run (d := dst) h1 h2 h3 hmx hij hjm hm hu hs hx ρ w hρ, S, by rw [hA, hC, hn], rfl⟩)
theorem OwnR.full {s : Seg} {r : List α} (h : OwnR T e A l r s) : ∃ A', A' = (if l.length + r.length = 0 then A else A.map (·.add (0 * T.sz))) ∧ Own T e A' (l.length + r.length) (l ++ r) s := by
  refine ⟨_, rfl, [], by simp, ?_⟩
  have := h.cut (Nat.zero_le _) (Nat.le_refl _) (Nat.le_refl (l.length + r.length))
  rw [show subl (l ++ r) 0 (l.length + r.length) = l ++ r from by unfold subl; exact List.take_of_length_le (by simp), show subl (l ++ r) (l.length + r.length) (l.length + r.length) = [] from by simp [subl]] at this
  exact this
theorem Do.sliceFull {r : List α} (hCC : C = l.length + r.length) (h2 : evBound E hi l.length C) (hu : X.P.underlying xt = some (.slice e)) (hs : sizeN X.P e T.sz = true) (hx : ev E x = some (.slice A l.length C)) (hA : A' = (if l.length + r.length = 0 then A else A.map (·.add (0 * T.sz)))) :
    Does X E H (.slice xt x none hi none) (Is (.slice A' (l ++ r).length C) H) := by
  subst hCC
  exact Do.sliceX_ (T := T) (l := l) 0 (l.length + r.length) (l.length + r.length) rfl h2 rfl (by intro h; cases h) (Nat.zero_le _) (Nat.le_refl _) (Nat.le_refl _) hu hs hx hA (by simp) (by simp)
theorem AtL.sliceFull {k : List Item} {ds : List Deferred} {ops : Array Oper} {os : List Oper} {d : Nat} {ty : TypeId} {pos : String} {after : Array Edge} {g : Option (Nat × Bool)} {r : List α} (hCC : C = l.length + r.length) (h2 : evBound E hi l.length C) (hu : X.P.underlying xt = some (.slice e)) (hs : sizeN X.P e T.sz = true) (hg : Wd X ops E g) (hd : Nat.blt d X.n = true) (hx : ev E x = some (.slice A l.length C)) (hA : A' = (if l.length + r.length = 0 then A else A.map (·.add (0 * T.sz))))
    (hk : AtL X ops os k ((d, .slice A' (l ++ r).length C) :: E) ds H) : AtL X ops (⟨some d, .slice xt x none hi none, ty, pos, after, g⟩ :: os) k E ds H := AtL.ofIs (Do.sliceFull hCC h2 hu hs hx hA) hg hd hk
end
end
end Go.Proofs.YtlkdmbpbjhjkfaaGreatDoor
