/- The parts of the proof that this law needs, in the order of their texts: the logic of walks, the plain laws, the walks. -/
import Derived.Test.YtdncjmehhahidaaGreatDoorQC10
namespace Go.Proofs.YtdncjmehhahidaaGreatDoor
open Go.RowKit (Below)
set_option linter.unusedVariables false
set_option linter.unusedSimpArgs false
set_option linter.unusedSectionVars false
structure Ky (κ : Type) where
  val : κ → Value
  kd : TypeDesc → Bool
  same : ∀ d a b, kd d = true → ∃ t : Bool, Instr.sameNow d (val a) (val b) = some t ∧ (t = true ↔ a = b)
  plain : ∀ d, kd d = true → (match d with | .interface _ => false | .array _ _ => false | .struct _ => false | _ => true) = true
section
variable {κ β : Type} (Q : Ky κ) (tv : β → Value)
def mapE : Nat → List (κ × β) → List MapEntry
  | _, [] => []
  | n, p :: r => ⟨Q.val p.1, tv p.2, n⟩ :: mapE (n + 1) r
def mapO (kvs : List (κ × β)) : Obj := .map (mapE Q tv 0 kvs).toArray kvs.length
end
def atK {κ β : Type} [DecidableEq κ] (a : κ) : List (κ × β) → Option β
  | [] => none
  | p :: r => if a = p.1 then some p.2 else atK a r
section
variable {κ β : Type} [DecidableEq κ] {Q : Ky κ} {tv : β → Value}
theorem mapE_snoc (n : Nat) (kvs : List (κ × β)) (a : κ) (v : β) : mapE Q tv n (kvs ++ [(a, v)]) = mapE Q tv n kvs ++ [⟨Q.val a, tv v, n + kvs.length⟩] := by
  induction kvs generalizing n with
  | nil => rfl
  | cons p r ih => simp only [List.cons_append, mapE, ih, List.length_cons]; rw [show n + 1 + r.length = n + (r.length + 1) by omega]
theorem findNow_at {d : TypeDesc} (hd : Q.kd d = true) (a : κ) (kvs : List (κ × β)) (n i : Nat) : ∃ r, Instr.findNow d (Q.val a) (mapE Q tv n kvs) i = some r ∧ r.map (·.2) = (atK a kvs).map tv := by
  induction kvs generalizing n i with
  | nil => exact ⟨none, rfl, rfl⟩
  | cons p r ih =>
    obtain ⟨t, ht, hab⟩ := Q.same d a p.1 hd
    rw [mapE, Instr.findNow]
    simp only [ht]
    cases t with
    | true => exact ⟨_, rfl, by rw [atK, if_pos (hab.1 rfl)]; rfl⟩
    | false =>
      obtain ⟨q, h1, h2⟩ := ih (n + 1) (i + 1)
      have : ¬ a = p.1 := fun h => by have := hab.2 h; cases this
      exact ⟨q, h1, by rw [atK, if_neg this]; exact h2⟩
theorem checkKey_run {P : Program} {w : World} {t : TypeId} {d : TypeDesc} (hu : P.underlying t = some d) (hd : Q.kd d = true) (a : κ) (e : Bool) : (Instr.checkKey e 10000 t (Q.val a)).run P w = .ok () w := by
  have hp := Q.plain d hd
  show (Instr.checkKey e (9999 + 1) t (Q.val a)).run P w = _
  unfold Instr.checkKey
  simp only [run_underlying hu, Sem.run_bind, Result.andThen_ok]
  cases d <;> first | (cases hp; done) | rfl
end
section
variable {X : Pt} {k : List Item} {E : Env} {ds : List Deferred} {H : List Seg} {ops : Array Oper} {os : List Oper}
  {d : Nat} {ty : TypeId} {pos : String} {after : Array Edge} {g : Option (Nat × Bool)} {κ β : Type} [DecidableEq κ] {Q : Ky κ} {tv : β → Value}
theorem Do.makeMap (Q : Ky κ) (tv : β → Value) {t : TypeId} : Does X E H (.makeMap t none) (fun v H' => ∃ b, v = .map (some b) ∧ H' = [(b, mapO Q tv ([] : List (κ × β)))] :: H) :=
  Does.core rfl fun dst ty pos after g ρ w hρ S => ⟨.map (some w.heap.size), w.alloc (.map #[] 0), _, by
    simp [execOp, Instr.makeMap, newObj, Sem.run], S.alloc _, w.heap.size, rfl, rfl⟩
theorem AtL.makeMap (Q : Ky κ) (tv : β → Value) {t : TypeId} (hg : Wd X ops E g) (hd : Nat.blt d X.n = true) (hk : ∀ b, AtL X ops os k ((d, .map (some b)) :: E) ds ([(b, mapO Q tv ([] : List (κ × β)))] :: H)) :
    AtL X ops (⟨some d, .makeMap t none, ty, pos, after, g⟩ :: os) k E ds H :=
  AtL.of (Do.makeMap Q tv) hg hd fun _ _ ⟨b, hv, hH⟩ => by subst hv; subst hH; exact hk b
theorem mapUpdate_run {P : Program} {w : World} {t kt et : TypeId} {dd : TypeDesc} {b : Nat} {kvs : List (κ × β)} {a : κ} {v : β} (hu : P.underlying t = some (.map kt et)) (hk : P.underlying kt = some dd) (hd : Q.kd dd = true) (hb : w.heap[b]? = some (mapO Q tv kvs)) (hno : atK a kvs = none) :
    (Instr.mapUpdate t (.map (some b)) (Q.val a) (tv v)).run P w = .ok () { w with heap := w.heap.setIfInBounds b (mapO Q tv (kvs ++ [(a, v)])) } := by
  obtain ⟨r, h1, h2⟩ := findNow_at (tv := tv) hd a kvs 0 0
  rw [hno] at h2
  obtain rfl : r = none := by cases r with | none => rfl | some q => cases h2
  have hg : (getObj b).run P w = .ok (mapO Q tv kvs) w := getObj_at hb rfl
  have hs : ∀ o, (setObj b o).run P w = .ok () { w with heap := w.heap.setIfInBounds b o } := fun o => setObj_run hb rfl
  unfold Instr.mapUpdate
  simp only [run_underlying hu, Sem.run_bind, Result.andThen_ok, hg, mapO, checkKey_run hk hd, Instr.findKey, run_underlying hk, h1, Sem.run_pure, hs]
  simp only [mapE_snoc, Nat.zero_add, List.push_toArray, List.length_append, List.length_singleton]
theorem Do.insert {t kt et : TypeId} {dd : TypeDesc} {x y z : Operand} {b : Nat} {kvs : List (κ × β)} {a : κ} {v : β} {s : Seg} {H' : List Seg} (i j : Nat) (hu : X.P.underlying t = some (.map kt et)) (hk : X.P.underlying kt = some dd) (hd : Q.kd dd = true)
    (hi : H[i]? = some s) (hj : s[j]? = some (b, mapO Q tv kvs)) (hno : atK a kvs = none) (hx : ev E x = some (.map (some b))) (hy : ev E y = some (Q.val a)) (hz : ev E z = some (tv v)) (hH : H.set i (s.set j (b, mapO Q tv (kvs ++ [(a, v)]))) = H') : Does X E H (.insert t x y z) (Is undef H') :=
  Does.coreU rfl fun dst ty pos after g ρ w hρ S => by
    have hb := (S.at_ hi hj).1
    refine ⟨_, H', ?_, hH ▸ S.setObj hi hj _, rfl, rfl⟩
    have := mapUpdate_run (P := X.P) hu hk hd hb hno (v := v)
    simp [execOp, hρ _ _ hx, hρ _ _ hy, hρ _ _ hz, this]
theorem AtL.insert {t kt et : TypeId} {dd : TypeDesc} {x y z : Operand} {b : Nat} {kvs : List (κ × β)} {a : κ} {v : β} {s : Seg} {H' : List Seg} (i j : Nat) (hu : X.P.underlying t = some (.map kt et)) (hk : X.P.underlying kt = some dd) (hd : Q.kd dd = true) (hg : Wd X ops E g)
    (hi : H[i]? = some s) (hj : s[j]? = some (b, mapO Q tv kvs)) (hno : atK a kvs = none) (hx : ev E x = some (.map (some b))) (hy : ev E y = some (Q.val a)) (hz : ev E z = some (tv v)) (hH : H.set i (s.set j (b, mapO Q tv (kvs ++ [(a, v)]))) = H') (hk2 : AtL X ops os k E ds H') :
    AtL X ops (⟨none, .insert t x y z, ty, pos, after, g⟩ :: os) k E ds H :=
  AtL.of (Do.insert i j hu hk hd hi hj hno hx hy hz hH) hg rfl fun _ _ ⟨hv, hH⟩ => by subst hv; subst hH; exact hk2
theorem lookup_run {P : Program} {w : World} {t kt et : TypeId} {dd : TypeDesc} {b : Nat} {kvs : List (κ × β)} {a : κ} {z : Value} (ok : Bool) (hu : P.underlying t = some (.map kt et)) (hk : P.underlying kt = some dd) (hd : Q.kd dd = true) (hb : w.heap[b]? = some (mapO Q tv kvs)) (hz : zeroV P et = some z) :
    (Instr.lookup t (.map (some b)) (Q.val a) ok).run P w = .ok (if ok then .tuple #[((atK a kvs).map tv).getD z, .bool (atK a kvs).isSome] else ((atK a kvs).map tv).getD z) w := by
  obtain ⟨r, h1, h2⟩ := findNow_at (tv := tv) hd a kvs 0 0
  have hg : (getObj b).run P w = .ok (mapO Q tv kvs) w := getObj_at hb rfl
  unfold Instr.lookup
  simp only [run_underlying hu, Sem.run_bind, Result.andThen_ok, hg, mapO, Sem.run_pure, checkKey_run hk hd, Instr.findKey, run_underlying hk, h1]
  cases r with
  | none =>
    have h3 : atK a kvs = none := by cases h : atK a kvs with | none => rfl | some q => rw [h] at h2; cases h2
    simp only [zeroV_run hz, Sem.run_bind, Result.andThen_ok, Sem.run_pure, h3, Option.map_none, Option.getD_none, Option.isSome_none]
  | some q =>
    obtain ⟨q1, q2⟩ := q
    cases h3 : atK a kvs with
    | none => rw [h3] at h2; cases h2
    | some u =>
      rw [h3] at h2
      simp only [Option.map_some, Option.some.injEq] at h2
      subst h2
      cases ok <;> rfl
theorem Do.lookup {t kt et : TypeId} {dd : TypeDesc} {x y : Operand} {b : Nat} {kvs : List (κ × β)} {a : κ} {z : Value} {s : Seg} {v : Value} (ok : Bool) (i j : Nat) (hu : X.P.underlying t = some (.map kt et)) (hk : X.P.underlying kt = some dd) (hd : Q.kd dd = true) (hz : zeroV X.P et = some z)
    (hi : H[i]? = some s) (hj : s[j]? = some (b, mapO Q tv kvs)) (hx : ev E x = some (.map (some b))) (hy : ev E y = some (Q.val a)) (hv : (if ok then .tuple #[((atK a kvs).map tv).getD z, .bool (atK a kvs).isSome] else ((atK a kvs).map tv).getD z) = v) : Does X E H (.lookup t x y ok) (Is v H) :=
  Does.core rfl fun dst ty pos after g ρ w hρ S => ⟨v, w, H, by
    have := lookup_run (P := X.P) (a := a) ok hu hk hd (S.at_ hi hj).1 hz
    simp [execOp, hρ _ _ hx, hρ _ _ hy, this, hv], S, rfl, rfl⟩
theorem AtL.lookup {t kt et : TypeId} {dd : TypeDesc} {x y : Operand} {b : Nat} {kvs : List (κ × β)} {a : κ} {z : Value} {s : Seg} {v : Value} {ok : Bool} (i j : Nat) (hu : X.P.underlying t = some (.map kt et)) (hk : X.P.underlying kt = some dd) (hd : Q.kd dd = true) (hz : zeroV X.P et = some z) (hg : Wd X ops E g) (hd2 : Nat.blt d X.n = true)
    (hi : H[i]? = some s) (hj : s[j]? = some (b, mapO Q tv kvs)) (hx : ev E x = some (.map (some b))) (hy : ev E y = some (Q.val a)) (hv : (if ok then .tuple #[((atK a kvs).map tv).getD z, .bool (atK a kvs).isSome] else ((atK a kvs).map tv).getD z) = v) (hk2 : AtL X ops os k ((d, v) :: E) ds H) :
    AtL X ops (⟨some d, .lookup t x y ok, ty, pos, after, g⟩ :: os) k E ds H := AtL.ofIs (Do.lookup ok i j hu hk hd hz hi hj hx hy hv) hg hd2 hk2
end
end Go.Proofs.YtdncjmehhahidaaGreatDoor
