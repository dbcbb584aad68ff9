/- A logic for walks: arrays in memory. -/
import Derived.Test.YtlkdmbpbjhjkfaaGreatDoorLgN
import Derived.Test.YtlkdmbpbjhjkfaaGreatDoorLgT
namespace Go.Proofs.YtlkdmbpbjhjkfaaGreatDoor
open Go.RowKit (Below)
set_option linter.unusedVariables false
set_option linter.unusedSimpArgs false

theorem w64u {z : Int} (h1 : 0 ≤ z) (h2 : z ≤ 18446744073709551615) : IntKind.u64.wrap z = z := by
  simp only [IntKind.wrap, IntKind.bits, IntKind.signed, Bool.false_and, if_false]
  exact Int.emod_eq_of_lt h1 (by omega)
section
variable {X : Pt} {k : List Item} {E : Env} {ds : List Deferred} {H : List Seg} {ops : Array Oper} {os : List Oper}
  {d : Nat} {ty : TypeId} {pos : String} {after : Array Edge} {g : Option (Nat × Bool)} {α : Type} {T : Ty α}
/-- A new array. -/
theorem AtL.allocArr {e : TypeId} {z : Value} {l : List α} (T : Ty α) (hz : zeroV X.P e = some z) (hcs : z.cells = (T.cells l).toArray) (hle : l.length ≤ 9223372036854775807) (hg : Wd X ops E g) (hd : Nat.blt d X.n = true)
    (hk : ∀ b s, Own T e (some ⟨b, 0, none⟩) l.length l s → AtL X ops os k ((d, .pointer (some ⟨b, 0, none⟩)) :: E) ds (s :: H)) :
    AtL X ops (⟨some d, .alloc e, ty, pos, after, g⟩ :: os) k E ds H := by
  refine AtL.alloc hz hcs hg hd fun b => ?_
  exact AtL.own1 T (l := l) rfl rfl hle fun s o => hk b s o
/-- An array that is handed in, in memory. -/
theorem AtL.boxArr {e : TypeId} {x : Operand} {v : Value} {l : List α} (T : Ty α) (hcs : v.cells = (T.cells l).toArray) (hle : l.length ≤ 9223372036854775807) (hg : Wd X ops E g) (hd : Nat.blt d X.n = true) (hx : ev E x = some v)
    (hk : ∀ b s, Own T e (some ⟨b, 0, none⟩) l.length l s → AtL X ops os k ((d, .pointer (some ⟨b, 0, none⟩)) :: E) ds (s :: H)) :
    AtL X ops (⟨some d, .box e x, ty, pos, after, g⟩ :: os) k E ds H := by
  refine AtL.box hcs hg hd hx fun b => ?_
  exact AtL.own1 T (l := l) rfl rfl hle fun s o => hk b s o
/-- An array's element's place. -/
theorem Do.indexArr {t e n sz : Nat} {x ix : Operand} {a : Addr} {kk : IntKind} {i : Int} (j : Nat) (hu : X.P.underlying t = some (.array n e)) (hs : sizeN X.P e sz = true) (hx : ev E x = some (.pointer (some a))) (hi : ev E ix = some (.int kk i)) (hij : i = (j : Int)) (hj : j < n) :
    Does X E H (.indexAddr t x ix) (Is (.pointer (some (eaddr (some a) (j * sz)))) H) :=
  Does.pureOp rfl (fun dst ty pos after g ρ w hρ => by
    subst hij
    simp [execOp, hρ _ _ hx, hρ _ _ hi, Instr.indexAt, Instr.sureAddr, asIntOf, run_underlying hu, hj, sizeN_run hs, eaddr])
theorem AtL.indexArr {t e n sz : Nat} {x ix : Operand} {a : Addr} {kk : IntKind} {i : Int} (j : Nat) (hu : X.P.underlying t = some (.array n e)) (hs : sizeN X.P e sz = true) (hg : Wd X ops E g) (hd : Nat.blt d X.n = true) (hx : ev E x = some (.pointer (some a))) (hi : ev E ix = some (.int kk i))
    (hij : i = (j : Int)) (hj : j < n) (hk : AtL X ops os k ((d, .pointer (some (eaddr (some a) (j * sz)))) :: E) ds H) :
    AtL X ops (⟨some d, .indexAddr t x ix, ty, pos, after, g⟩ :: os) k E ds H :=
  AtL.ofIs (Do.indexArr j hu hs hx hi hij hj) hg hd hk
theorem AtL.indexArrB {t e n sz b o r : Nat} {x ix : Operand} {kk : IntKind} {i : Int} (j : Nat) (hu : X.P.underlying t = some (.array n e)) (hs : sizeN X.P e sz = true) (hg : Wd X ops E g) (hd : Nat.blt d X.n = true) (hx : ev E x = some (.pointer (some ⟨b, o, none⟩))) (hi : ev E ix = some (.int kk i))
    (hij : i = (j : Int)) (hj : Nat.blt j n = true) (hr : o + j * sz = r) (hk : AtL X ops os k ((d, .pointer (some ⟨b, r, none⟩)) :: E) ds H) :
    AtL X ops (⟨some d, .indexAddr t x ix, ty, pos, after, g⟩ :: os) k E ds H := by
  subst hr
  refine AtL.indexArr j hu hs hg hd hx hi hij (blt_lt hj) ?_
  simpa [eaddr, addr_add] using hk
theorem Rd.arr {w0 : World} {base : Nat} {b C : Nat} {l : List α} (h : Rd T w0 base H (some ⟨b, 0, none⟩) C l) : ∀ j v, (T.cells l)[j]? = some v → Cell w0 base H ((⟨b, 0, none⟩ : Addr).add j) v := by
  intro j v hj w S
  obtain ⟨b', off, h1, hc⟩ := h.cells (by rintro rfl; simp [Ty.cells] at hj)
  cases h1
  rw [addr_add]
  exact hc w S j v hj
/-- A whole array is read. -/
theorem AtL.loadArr {t n : Nat} {x : Operand} {b C : Nat} {l : List α} (hr : Rd T X.w0 X.base H (some ⟨b, 0, none⟩) C l) (hf : aggN X.P t = some n) (hn : (T.cells l).length = n) (hg : Wd X ops E g) (hd : Nat.blt d X.n = true) (hx : ev E x = some (.pointer (some ⟨b, 0, none⟩)))
    (hk : AtL X ops os k ((d, .agg (T.cells l).toArray) :: E) ds H) : AtL X ops (⟨some d, .load t x, ty, pos, after, g⟩ :: os) k E ds H :=
  AtL.loadN hf hg hd hx hn hr.arr hk
theorem LoadsTo.arr {P : Program} {w0 : World} {base : Nat} {t n : Nat} {b C : Nat} {l : List α} (hr : Rd T w0 base H (some ⟨b, 0, none⟩) C l) (hf : aggN P t = some n) (hn : (T.cells l).length = n) : LoadsTo P w0 base H t ⟨b, 0, none⟩ (.agg (T.cells l).toArray) :=
  LoadsTo.agg hf hn hr.arr
/-- A whole array is written. -/
theorem Do.storeArr {t n : TypeId} {e : TypeId} {x y : Operand} {b C : Nat} {l l' : List α} {s : Seg} {v : Value} (i : Nat) (hsz : sizeN X.P t n = true) (hi : H[i]? = some s) (ho : Own T e (some ⟨b, 0, none⟩) C l s) (hl : l'.length = l.length) (hv : v.cells = (T.cells l').toArray) (hn : (T.cells l').length = n)
    (hx : ev E x = some (.pointer (some ⟨b, 0, none⟩))) (hy : ev E y = some v) : Does X E H (.store t x y) (fun v' H' => ∃ s', Own T e (some ⟨b, 0, none⟩) C l' s' ∧ v' = undef ∧ H' = H.set i s') :=
  Does.coreU rfl (fun dst ty pos after g ρ w hρ S => by
    obtain ⟨r, rfl, hor⟩ := ho
    obtain ⟨s', w', hst, ho', S'⟩ := hor.over (P := X.P) S hi rfl 0 l' (by omega)
    have hset : l.take 0 ++ l' ++ l.drop (0 + l'.length) = l' := by
      rw [Nat.zero_add, hl, List.drop_of_length_le (Nat.le_refl _)]; simp
    rw [hset] at ho'
    refine ⟨w', _, ?_, S', s', ⟨r, by rw [hl], ho'⟩, rfl, rfl⟩
    have hst2 : (storeCells (⟨b, 0, none⟩ : Addr) (T.cells l')).run X.P w = .ok () w' := by
      have h0 : ((⟨b, 0, none⟩ : Addr).add (0 * T.sz)) = ⟨b, 0, none⟩ := by simp [addr_add]
      rw [h0] at hst
      exact hst
    have hvs : v.cells.size = n := by rw [hv]; simpa using hn
    simp [execOp, hρ _ _ hx, hρ _ _ hy, Instr.storeAt, Instr.sureAddr, storeVar, sizeN_run hsz, hv, hn, hst2])
theorem AtL.storeArr {t n : TypeId} {e : TypeId} {x y : Operand} {b C : Nat} {l l' : List α} {s : Seg} {v : Value} (i : Nat) (hsz : sizeN X.P t n = true) (hi : H[i]? = some s) (ho : Own T e (some ⟨b, 0, none⟩) C l s) (hl : l'.length = l.length) (hv : v.cells = (T.cells l').toArray) (hn : (T.cells l').length = n) (hg : Wd X ops E g)
    (hx : ev E x = some (.pointer (some ⟨b, 0, none⟩))) (hy : ev E y = some v)
    (hk : ∀ s', Own T e (some ⟨b, 0, none⟩) C l' s' → AtL X ops os k E ds (H.set i s')) :
    AtL X ops (⟨none, .store t x y, ty, pos, after, g⟩ :: os) k E ds H :=
  AtL.of (Do.storeArr i hsz hi ho hl hv hn hx hy) hg rfl fun _ _ ⟨s', h', hv, hH⟩ => by subst hv; subst hH; exact hk s' h'
end
end Go.Proofs.YtlkdmbpbjhjkfaaGreatDoor
