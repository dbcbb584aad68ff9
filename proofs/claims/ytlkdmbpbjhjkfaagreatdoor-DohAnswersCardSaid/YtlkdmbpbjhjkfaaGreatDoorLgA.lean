/- A logic for walks: frames as finite maps, memory as a list of blocks apart, the machine's own todo as continuation. Control. -/
import Derived.Calls
import Derived.Below
import Derived.Deep.Draws
namespace Go.Proofs.YtlkdmbpbjhjkfaaGreatDoor
open Go.RowKit (Below)
set_option linter.unusedVariables false
set_option linter.unusedSimpArgs false

/-- What is known of a frame's slots. -/
abbrev Env := List (Nat × Value)
def Env.get : Env → Nat → Option Value
  | [], _ => none
  | p :: E, t => match Nat.beq p.1 t with
    | true => some p.2
    | false => Env.get E t
/-- An operand's value. -/
def ev (E : Env) : Operand → Option Value
  | .tmp t => Env.get E t
  | .const v => some v
  | .global g => some (.pointer (some ⟨g, 0, none⟩))
  | .func f => some (.func (.func f) #[] #[])
def evA (a : Array Value) : Operand → Value
  | .tmp t => a.getD t undef
  | .const v => v
  | .global g => .pointer (some ⟨g, 0, none⟩)
  | .func f => .func (.func f) #[] #[]
structure Agree (n : Nat) (a : Array Value) (E : Env) : Prop where
  size : a.size = n
  get : ∀ t v, Env.get E t = some v → a.getD t undef = v
/-- Every slot of the first is one of the second. -/
def Sub : Env → Env → Prop
  | [], _ => True
  | (t, v) :: L, E => Env.get E t = some v ∧ Sub L E

def putA (a : Array Value) : Option Tmp → Value → Array Value
  | some d, v => a.setIfInBounds d v
  | none, _ => a
def putE (E : Env) : Option Tmp → Value → Env
  | some d, v => (d, v) :: E
  | none, _ => E
def dstOk (n : Nat) : Option Tmp → Bool
  | some d => Nat.blt d n
  | none => true

theorem blt_lt {d n : Nat} (h : Nat.blt d n = true) : d < n := Nat.le_of_ble_eq_true h
theorem beq_no {d t : Nat} (h : d ≠ t) : Nat.beq d t = false := by
  cases hb : Nat.beq d t with
  | false => rfl
  | true => exact absurd (Nat.eq_of_beq_eq_true hb) h
theorem Agree.put {n : Nat} {a : Array Value} {E : Env} (h : Agree n a E) {d : Option Tmp} (hd : dstOk n d = true) (v : Value) : Agree n (putA a d v) (putE E d v) := by
  cases d with
  | none => exact h
  | some d =>
    have hlt : d < n := blt_lt hd
    refine ⟨by simp [putA, h.size], fun t u hu => ?_⟩
    simp only [putE, Env.get] at hu
    by_cases e : d = t
    · subst e
      simp at hu
      subst hu
      simp [putA, Array.getD_eq_getD_getElem?, h.size, hlt]
    · have : Nat.beq d t = false := beq_no e
      rw [this] at hu
      have := h.get t u hu
      rw [← this]
      simp only [putA, Array.getD_eq_getD_getElem?]
      rw [Array.getElem?_setIfInBounds, if_neg e]
theorem Agree.ev {n : Nat} {a : Array Value} {E : Env} (h : Agree n a E) {x : Operand} {v : Value} (hx : ev E x = some v) : evA a x = v := by
  cases x with
  | tmp t => exact h.get t v hx
  | const u => exact Option.some.inj hx
  | global g => exact Option.some.inj hx
  | func f => exact Option.some.inj hx
theorem Agree.sub {n : Nat} {a : Array Value} {L E : Env} (h : Agree n a E) (hs : Sub L E) : Agree n a L := by
  refine ⟨h.size, ?_⟩
  induction L with
  | nil => intro t v hv; simp [Env.get] at hv
  | cons p L ih =>
    obtain ⟨t0, v0⟩ := p
    obtain ⟨h1, h2⟩ := hs
    intro t v hv
    simp only [Env.get] at hv
    by_cases e : t0 = t
    · subst e
      simp at hv
      subst hv
      exact h.get t0 v0 h1
    · have : Nat.beq t0 t = false := beq_no e
      rw [this] at hv
      exact ih h2 t v hv

/-- Blocks of a value's own, with what they hold. -/
abbrev Seg := List (Nat × Obj)
/-- Below 'base' all is as it was in w0; the blocks listed stand from 'base' on, apart, and hold what is said. -/
structure Sep (w0 : World) (base : Nat) (w : World) (H : List Seg) : Prop where
  below : Below base w0 w
  le : base ≤ w0.heap.size
  mem : ∀ p ∈ H.flatten, base ≤ p.1 ∧ w.heap[p.1]? = some p.2
  nodup : (H.flatten.map (·.1)).Nodup

section
variable {w0 : World} {base : Nat} {w w' : World} {H : List Seg}
theorem Sep.start (w : World) : Sep w w.heap.size w [] := ⟨Below.refl _ _, Nat.le_refl _, by simp, by simp⟩
theorem Sep.base_le (S : Sep w0 base w H) : base ≤ w.heap.size := Nat.le_trans S.le S.below.size
/-- A world of the same heap. -/
theorem Sep.same (S : Sep w0 base w H) (h : w'.heap = w.heap) (ho : w'.os = w.os) (ht : w'.tape = w.tape) (hp : w'.output = w.output) : Sep w0 base w' H :=
  ⟨⟨ho.trans S.below.os, ht.trans S.below.tape, hp.trans S.below.output, by rw [h]; exact S.below.size, fun k hk => by rw [h]; exact S.below.block k hk⟩, S.le, fun p hp => by rw [h]; exact S.mem p hp, S.nodup⟩
theorem Sep.drawn (S : Sep w0 base w H) (n : Nat) : Sep w0 base { w with drawn := n } H := S.same rfl rfl rfl rfl
theorem Sep.lt (S : Sep w0 base w H) {p : Nat × Obj} (hp : p ∈ H.flatten) : p.1 < w.heap.size := (Array.getElem?_eq_some_iff.1 (S.mem p hp).2).1
theorem Sep.alloc (S : Sep w0 base w H) (o : Obj) : Sep w0 base (w.alloc o) ([(w.heap.size, o)] :: H) := by
  refine ⟨S.below.alloc S.base_le o, S.le, ?_, ?_⟩
  · intro p hp
    rw [List.flatten_cons, List.mem_append] at hp
    rcases hp with hp | hp
    · simp only [List.mem_singleton] at hp
      subst hp
      exact ⟨S.base_le, by show (w.heap.push o)[w.heap.size]? = _; simp⟩
    · refine ⟨(S.mem p hp).1, ?_⟩
      rw [Below.heap_alloc w o p.1 (S.lt hp)]
      exact (S.mem p hp).2
  · rw [List.flatten_cons, List.map_append, List.nodup_append]
    refine ⟨by simp, S.nodup, ?_⟩
    intro a ha b hb e
    simp only [List.map_cons, List.map_nil, List.mem_singleton] at ha
    obtain ⟨p, hp, rfl⟩ := List.mem_map.1 hb
    have := S.lt hp
    omega
theorem Sep.nil (S : Sep w0 base w H) : Sep w0 base w ([] :: H) := ⟨S.below, S.le, by simpa using S.mem, by simpa using S.nodup⟩

theorem flatten_set_mem {H : List Seg} {i : Nat} {s' : Seg} {p : Nat × Obj} (hp : p ∈ (H.set i s').flatten) : p ∈ s' ∨ (∃ j, j ≠ i ∧ ∃ r, H[j]? = some r ∧ p ∈ r) := by
  rw [List.mem_flatten] at hp
  obtain ⟨r, hr, hp⟩ := hp
  obtain ⟨j, hj⟩ := List.mem_iff_getElem?.1 hr
  rw [List.getElem?_set] at hj
  split at hj
  · rename_i e
    split at hj
    · cases hj; exact .inl hp
    · cases hj
  · rename_i e
    exact .inr ⟨j, fun x => e x.symm, r, hj, hp⟩
end

theorem keys_set {s : Seg} {j : Nat} {b : Nat} {o o' : Obj} (hj : s[j]? = some (b, o)) : (s.set j (b, o')).map (·.1) = s.map (·.1) := by
  apply List.ext_getElem?
  intro i
  rw [List.getElem?_map, List.getElem?_map, List.getElem?_set]
  split
  · rename_i e
    subst e
    have hlt := (List.getElem?_eq_some_iff.1 hj).1
    rw [if_pos hlt, hj]
    rfl
  · rfl
theorem keys_flat_set {H : List Seg} {i : Nat} {s s' : Seg} (hi : H[i]? = some s) (hk : s'.map (·.1) = s.map (·.1)) : (H.set i s').flatten.map (·.1) = H.flatten.map (·.1) := by
  rw [List.map_flatten, List.map_flatten]
  congr 1
  apply List.ext_getElem?
  intro j
  rw [List.getElem?_map, List.getElem?_map, List.getElem?_set]
  split
  · rename_i e
    subst e
    have hlt := (List.getElem?_eq_some_iff.1 hi).1
    rw [if_pos hlt, hi]
    simp [hk]
  · rfl
/-- Keys are apart: two places of the same key are one. -/
theorem nodup_place {H : List Seg} (hn : (H.flatten.map (·.1)).Nodup) {i j : Nat} {s : Seg} {b : Nat} {o : Obj} (hi : H[i]? = some s) (hj : s[j]? = some (b, o)) {i' : Nat} {s' : Seg} {o' : Obj}
    (hi' : H[i']? = some s') (hm : (b, o') ∈ s') : i' = i ∧ (∀ j', s'[j']? = some (b, o') → j' = j) := by
  induction H generalizing i i' with
  | nil => simp at hi
  | cons t H ih =>
    rw [List.flatten_cons, List.map_append, List.nodup_append] at hn
    obtain ⟨n1, n2, n3⟩ := hn
    have memt : ∀ {k : Nat} {r : Seg} {x : Obj}, H[k]? = some r → (b, x) ∈ r → b ∈ H.flatten.map (·.1) := fun hk hx => List.mem_map.2 ⟨_, List.mem_flatten.2 ⟨_, List.mem_iff_getElem?.2 ⟨_, hk⟩, hx⟩, rfl⟩
    have hmj : (b, o) ∈ s := List.mem_iff_getElem?.2 ⟨j, hj⟩
    cases i with
    | zero =>
      cases i' with
      | zero =>
        simp only [List.getElem?_cons_zero, Option.some.injEq] at hi hi'
        subst hi; subst hi'
        refine ⟨rfl, fun j' hj' => ?_⟩
        have l1 := (List.getElem?_eq_some_iff.1 hj).1
        have l2 := (List.getElem?_eq_some_iff.1 hj').1
        have e1 : (t.map (·.1))[j]? = some b := by rw [List.getElem?_map, hj]; rfl
        have e2 : (t.map (·.1))[j']? = some b := by rw [List.getElem?_map, hj']; rfl
        obtain ⟨l1, g1⟩ := List.getElem?_eq_some_iff.1 e1
        obtain ⟨l2, g2⟩ := List.getElem?_eq_some_iff.1 e2
        have := List.pairwise_iff_getElem.1 n1
        rcases Nat.lt_trichotomy j' j with h | h | h
        · exact absurd (g2.trans g1.symm) (this j' j l2 l1 h)
        · exact h
        · exact absurd (g1.trans g2.symm) (this j j' l1 l2 h)
      | succ i' =>
        simp only [List.getElem?_cons_zero, Option.some.injEq, List.getElem?_cons_succ] at hi hi'
        subst hi
        exact absurd rfl (n3 b (List.mem_map.2 ⟨_, hmj, rfl⟩) b (memt hi' hm))
    | succ i =>
      cases i' with
      | zero =>
        simp only [List.getElem?_cons_zero, Option.some.injEq, List.getElem?_cons_succ] at hi hi'
        subst hi'
        exact absurd rfl (n3 b (List.mem_map.2 ⟨_, hm, rfl⟩) b (memt hi hmj))
      | succ i' =>
        simp only [List.getElem?_cons_succ] at hi hi'
        have := ih n2 hi hi'
        exact ⟨by rw [this.1], this.2⟩

section
variable {w0 : World} {base : Nat} {w w' : World} {H : List Seg}
/-- One of the listed blocks is written. -/
theorem Sep.write (S : Sep w0 base w H) {i j : Nat} {s : Seg} {b : Nat} {o : Obj} (hi : H[i]? = some s) (hj : s[j]? = some (b, o)) (o' : Obj)
    (ho : w'.os = w.os) (ht : w'.tape = w.tape) (hp : w'.output = w.output) (hs : w'.heap.size = w.heap.size) (hb : w'.heap[b]? = some o') (hk : ∀ k, k ≠ b → w'.heap[k]? = w.heap[k]?) :
    Sep w0 base w' (H.set i (s.set j (b, o'))) := by
  have hmem : (b, o) ∈ H.flatten := List.mem_flatten.2 ⟨s, List.mem_iff_getElem?.2 ⟨i, hi⟩, List.mem_iff_getElem?.2 ⟨j, hj⟩⟩
  have hbase := (S.mem _ hmem).1
  refine ⟨S.below.trans ⟨ho, ht, hp, by omega, fun k hk' => hk k (by intro e; subst e; have : base ≤ k := hbase; omega)⟩, S.le, ?_, ?_⟩
  · intro p hp
    rcases flatten_set_mem hp with h | ⟨i', hne, r, hr, hpr⟩
    · obtain ⟨j', hj'⟩ := List.mem_iff_getElem?.1 h
      rw [List.getElem?_set] at hj'
      split at hj'
      · rename_i e
        split at hj'
        · cases hj'; exact ⟨hbase, hb⟩
        · cases hj'
      · rename_i e
        have hps : p ∈ s := List.mem_iff_getElem?.2 ⟨j', hj'⟩
        have hpm : p ∈ H.flatten := List.mem_flatten.2 ⟨s, List.mem_iff_getElem?.2 ⟨i, hi⟩, hps⟩
        refine ⟨(S.mem p hpm).1, ?_⟩
        rw [hk p.1 ?_]
        · exact (S.mem p hpm).2
        · intro eb
          obtain ⟨p1, p2⟩ := p
          simp only at eb
          subst eb
          have := (nodup_place S.nodup hi hj hi hps).2 j' hj'
          exact e this.symm
    · have hpm : p ∈ H.flatten := List.mem_flatten.2 ⟨r, List.mem_iff_getElem?.2 ⟨i', hr⟩, hpr⟩
      refine ⟨(S.mem p hpm).1, ?_⟩
      rw [hk p.1 ?_]
      · exact (S.mem p hpm).2
      · intro eb
        obtain ⟨p1, p2⟩ := p
        simp only at eb
        subst eb
        exact hne (nodup_place S.nodup hi hj hr hpr).1
  · rw [keys_flat_set hi (keys_set hj)]
    exact S.nodup
theorem Sep.setCell (S : Sep w0 base w H) {i j : Nat} {s : Seg} {b : Nat} {cs : Array Value} {e : TypeId} {fr : Nat × Nat} (hi : H[i]? = some s) (hj : s[j]? = some (b, .cells cs e fr)) (k : Nat) (v : Value) :
    Sep w0 base (w.setCell ⟨b, k, none⟩ v) (H.set i (s.set j (b, .cells (cs.setIfInBounds k v) e fr))) := by
  have hmem : (b, Obj.cells cs e fr) ∈ H.flatten := List.mem_flatten.2 ⟨s, List.mem_iff_getElem?.2 ⟨i, hi⟩, List.mem_iff_getElem?.2 ⟨j, hj⟩⟩
  have hb := (S.mem _ hmem).2
  refine S.write hi hj _ rfl rfl rfl (by simp [World.setCell]) ?_ (fun k' hk' => Below.heap_setCell w _ v k' hk')
  simp only [World.setCell, Array.getElem?_modify]
  simp at hb
  simp [hb]
/-- Some of the blocks, in another order; the tail from m on. -/
def pickSegs (H : List Seg) : List Nat → Nat → List Seg
  | [], m => H.drop m
  | i :: is, m => (H[i]?).getD [] :: pickSegs H is m
def pickOk : List Nat → Nat → Bool
  | [], _ => true
  | i :: is, m => Nat.blt i m && is.all (fun j => !Nat.beq i j) && pickOk is m
theorem pickSegs_get {H : List Seg} {is : List Nat} {m : Nat} {t : Seg} (h : t ∈ pickSegs H is m) : t = [] ∨ (∃ i, i ∈ is ∧ H[i]? = some t) ∨ (∃ i, m ≤ i ∧ H[i]? = some t) := by
  induction is with
  | nil =>
    obtain ⟨i, hi⟩ := List.mem_iff_getElem?.1 h
    rw [pickSegs, List.getElem?_drop] at hi
    exact .inr (.inr ⟨_, Nat.le_add_right _ _, hi⟩)
  | cons i is ih =>
    rw [pickSegs, List.mem_cons] at h
    rcases h with rfl | h
    · cases hi : H[i]? with
      | none => exact .inl rfl
      | some t => exact .inr (.inl ⟨i, by simp, by simpa using hi⟩)
    · rcases ih h with h | ⟨j, hj, h⟩ | h
      · exact .inl h
      · exact .inr (.inl ⟨j, by simp [hj], h⟩)
      · exact .inr (.inr h)
theorem flat_nodup_iff {H : List Seg} : (H.flatten.map (·.1)).Nodup ↔ (∀ s ∈ H, (s.map (·.1)).Nodup) ∧ H.Pairwise (fun s t => ∀ x ∈ s.map (·.1), ∀ y ∈ t.map (·.1), x ≠ y) := by
  induction H with
  | nil => simp
  | cons s H ih =>
    rw [List.flatten_cons, List.map_append, List.nodup_append, ih, List.pairwise_cons]
    constructor
    · rintro ⟨h1, ⟨h2, h3⟩, h4⟩
      refine ⟨fun t ht => ?_, fun t ht x hx y hy => ?_, h3⟩
      · rcases List.mem_cons.1 ht with rfl | ht
        · exact h1
        · exact h2 t ht
      · refine h4 x hx y ?_
        obtain ⟨p, hp, rfl⟩ := List.mem_map.1 hy
        exact List.mem_map.2 ⟨p, List.mem_flatten.2 ⟨t, ht, hp⟩, rfl⟩
    · rintro ⟨h1, h2, h3⟩
      refine ⟨h1 s (by simp), ⟨fun t ht => h1 t (by simp [ht]), h3⟩, fun x hx y hy => ?_⟩
      obtain ⟨p, hp, rfl⟩ := List.mem_map.1 hy
      obtain ⟨t, ht, hp⟩ := List.mem_flatten.1 hp
      exact h2 t ht x hx _ (List.mem_map.2 ⟨p, hp, rfl⟩)
theorem apart_of {H : List Seg} (h : H.Pairwise (fun s t => ∀ x ∈ s.map (·.1), ∀ y ∈ t.map (·.1), x ≠ y)) {i j : Nat} (hne : i ≠ j) {s t : Seg} (hi : H[i]? = some s) (hj : H[j]? = some t) :
    ∀ x ∈ s.map (·.1), ∀ y ∈ t.map (·.1), x ≠ y := by
  rw [List.pairwise_iff_getElem] at h
  obtain ⟨l1, e1⟩ := List.getElem?_eq_some_iff.1 hi
  obtain ⟨l2, e2⟩ := List.getElem?_eq_some_iff.1 hj
  subst e1; subst e2
  rcases Nat.lt_or_ge i j with hlt | hge
  · exact h i j l1 l2 hlt
  · intro x hx y hy e
    exact h j i l2 l1 (by omega) y hy x hx e.symm
theorem pick_pairwise {H : List Seg} (h : H.Pairwise (fun s t => ∀ x ∈ s.map (·.1), ∀ y ∈ t.map (·.1), x ≠ y)) : ∀ (is : List Nat) (m : Nat), pickOk is m = true → (pickSegs H is m).Pairwise (fun s t => ∀ x ∈ s.map (·.1), ∀ y ∈ t.map (·.1), x ≠ y)
  | [], m, _ => List.Pairwise.sublist (List.drop_sublist m H) h
  | i :: is, m, hok => by
    simp only [pickOk, Bool.and_eq_true] at hok
    obtain ⟨⟨hlt, hall⟩, hok⟩ := hok
    have hlt := blt_lt hlt
    rw [pickSegs, List.pairwise_cons]
    refine ⟨fun t ht => ?_, pick_pairwise h is m hok⟩
    cases hi : H[i]? with
    | none => simp
    | some s =>
      simp only [Option.getD_some]
      rcases pickSegs_get ht with rfl | ⟨j, hj, ht⟩ | ⟨j, hj, ht⟩
      · simp
      · refine apart_of h ?_ hi ht
        have := List.all_eq_true.1 hall j hj
        rintro rfl
        simp at this
      · exact apart_of h (by omega) hi ht
theorem Sep.pick (S : Sep w0 base w H) (is : List Nat) (m : Nat) (hok : pickOk is m = true) : Sep w0 base w (pickSegs H is m) := by
  obtain ⟨h1, h2⟩ := flat_nodup_iff.1 S.nodup
  refine ⟨S.below, S.le, fun p hp => ?_, flat_nodup_iff.2 ⟨fun t ht => ?_, pick_pairwise h2 is m hok⟩⟩
  · obtain ⟨t, ht, hp⟩ := List.mem_flatten.1 hp
    refine S.mem p ?_
    rcases pickSegs_get ht with rfl | ⟨j, _, ht⟩ | ⟨j, _, ht⟩
    · simp at hp
    · exact List.mem_flatten.2 ⟨t, List.mem_iff_getElem?.2 ⟨j, ht⟩, hp⟩
    · exact List.mem_flatten.2 ⟨t, List.mem_iff_getElem?.2 ⟨j, ht⟩, hp⟩
  · rcases pickSegs_get ht with rfl | ⟨j, _, ht⟩ | ⟨j, _, ht⟩
    · simp
    · exact h1 t (List.mem_iff_getElem?.2 ⟨j, ht⟩)
    · exact h1 t (List.mem_iff_getElem?.2 ⟨j, ht⟩)
end
end Go.Proofs.YtlkdmbpbjhjkfaaGreatDoor
