/- A logic for walks: loops unrolled, appends of zeros, places in a block that is known. -/
import Derived.Test.YtlkdmbpbjhjkfaaGreatDoorLgI
namespace Go.Proofs.YtlkdmbpbjhjkfaaGreatDoor
open Go.RowKit (Below)
set_option linter.unusedVariables false
set_option linter.unusedSimpArgs false

theorem shr_eq (a b : Int) (c : Nat) (hb : b = (c : Int)) (hc : c ≤ 63) (d : Int) (hd : (2 : Int) ^ c = d) : a.fdiv (2 ^ (min b.toNat IntKind.i64.bits)) = a / d := by
  subst hb; subst hd
  have h1 : min ((c : Int)).toNat IntKind.i64.bits = c := by
    show min ((c : Int)).toNat 64 = c
    simp; omega
  rw [h1, Int.fdiv_eq_ediv_of_nonneg]
  exact Int.le_of_lt (Int.pow_pos (by omega))
theorem shl_eq (a b : Int) (c : Nat) (hb : b = (c : Int)) (hc : c ≤ 63) (d : Int) (hd : (2 : Int) ^ c = d) (h1 : -9223372036854775808 ≤ a * d) (h2 : a * d ≤ 9223372036854775807) : IntKind.i64.wrap (a * 2 ^ (min b.toNat IntKind.i64.bits)) = a * d := by
  subst hb; subst hd
  have e : min ((c : Int)).toNat IntKind.i64.bits = c := by
    show min ((c : Int)).toNat 64 = c
    simp; omega
  rw [e]
  exact w64 h1 h2
theorem quo_eq {a b : Int} (ha : 0 ≤ a) (hb : 0 < b) (hm : a ≤ 9223372036854775807) : IntKind.i64.wrap (a.tdiv b) = a / b := by
  rw [Int.tdiv_eq_ediv_of_nonneg ha]
  have h1 := Int.ediv_nonneg ha (Int.le_of_lt hb)
  have h2 := Int.ediv_le_self b ha
  exact w64 (by omega) (by omega)
theorem rem_eq {a b : Int} (ha : 0 ≤ a) : a.tmod b = a % b := Int.tmod_eq_emod_of_nonneg ha
theorem ofInt_toNat (a : Int) : (UInt8.ofInt a).toNat = (a % 256).toNat := by
  have h1 := Int.emod_nonneg a (show (256 : Int) ≠ 0 by decide)
  have h2 := Int.emod_lt_of_pos a (show (0 : Int) < 256 by decide)
  show (UInt8.ofNat (a % 2 ^ 8).toNat).toNat = _
  have e : (a % 2 ^ 8) = a % 256 := rfl
  rw [e, UInt8.toNat_ofNat_of_lt' (by show (a % 256).toNat < 256; omega)]
theorem u8_conv (a : Int) : IntKind.u8.wrap a = ((UInt8.ofInt a).toNat : Int) := by
  rw [ofInt_toNat]
  have h1 := Int.emod_nonneg a (show (256 : Int) ≠ 0 by decide)
  show a % (2 ^ 8 : Int) = _
  have e : (a % 2 ^ 8) = a % 256 := rfl
  omega
theorem ofInt_nat (n : Nat) : UInt8.ofInt (n : Int) = UInt8.ofNat n := by
  apply UInt8.toNat_inj.1
  rw [ofInt_toNat]
  simp
  omega
section
variable {X : Pt} {k : List Item} {E : Env} {ds : List Deferred} {H : List Seg} {ops : Array Oper} {os : List Oper}
  {d : Nat} {ty : TypeId} {pos : String} {after : Array Edge} {g : Option (Nat × Bool)}
theorem At.unroll {b : Code} (h : At X (.code b :: .inLoop b :: k) E ds H) : At X (.code (.loop b) :: k) E ds H := fun a w ha S => .step go_loop (h a w ha S)
theorem At.again {b : Code} (h : At X (.code b :: .inLoop b :: k) E ds H) : At X (.inLoop b :: k) E ds H := fun a w ha S => .step go_inLoop (h a w ha S)
theorem Do.indexB {t e sz b o r : Nat} {x ix : Operand} {n C : Nat} {kk : IntKind} {i : Int} (j : Nat) (hu : X.P.underlying t = some (.slice e)) (hs : sizeN X.P e sz = true) (hx : ev E x = some (.slice (some ⟨b, o, none⟩) n C)) (hi : ev E ix = some (.int kk i)) (hij : i = (j : Int)) (hj : Nat.blt j n = true) (hr : o + j * sz = r) :
    Does X E H (.indexAddr t x ix) (Is (.pointer (some ⟨b, r, none⟩)) H) := by
  have := Do.indexAddr (X := X) (E := E) (H := H) j hu hs hx hi hij (blt_lt hj) (by simp)
  rw [show eaddr (some ⟨b, o, none⟩) (j * sz) = ⟨b, r, none⟩ from by rw [← hr]; exact addr_add b o (j * sz)] at this
  exact this
theorem AtL.indexB {t e sz b o r : Nat} {x ix : Operand} {n C : Nat} {kk : IntKind} {i : Int} (j : Nat) (hu : X.P.underlying t = some (.slice e)) (hs : sizeN X.P e sz = true) (hg : Wd X ops E g) (hd : Nat.blt d X.n = true) (hx : ev E x = some (.slice (some ⟨b, o, none⟩) n C)) (hi : ev E ix = some (.int kk i)) (hij : i = (j : Int)) (hj : Nat.blt j n = true) (hr : o + j * sz = r)
    (hk : AtL X ops os k ((d, .pointer (some ⟨b, r, none⟩)) :: E) ds H) : AtL X ops (⟨some d, .indexAddr t x ix, ty, pos, after, g⟩ :: os) k E ds H := AtL.ofIs (Do.indexB j hu hs hx hi hij hj hr) hg hd hk
/-- A part of a nil slice. -/
theorem Do.sliceNil {xt e sz : Nat} {x : Operand} {lo hi : Option Operand} (h1 : evBound E lo 0 0) (h2 : evBound E hi 0 0) (hu : X.P.underlying xt = some (.slice e)) (hs : sizeN X.P e sz = true) (hx : ev E x = some (.slice none 0 0)) : Does X E H (.slice xt x lo hi none) (Is (.slice none 0 0) H) :=
  Does.core rfl (fun dst ty pos after g ρ w hρ S => ⟨_, w, H, slice_run (d := dst) (n := 0) h1 h2 (show evBound E none 0 0 from rfl) (by intro h; cases h) (Nat.le_refl _) (Nat.le_refl _) (Nat.le_refl _) hu hs hx ρ w hρ, S, by simp, rfl⟩)
theorem AtL.sliceNil {xt e sz : Nat} {x : Operand} {lo hi : Option Operand} (h1 : evBound E lo 0 0) (h2 : evBound E hi 0 0) (hu : X.P.underlying xt = some (.slice e)) (hs : sizeN X.P e sz = true) (hg : Wd X ops E g) (hd : Nat.blt d X.n = true) (hx : ev E x = some (.slice none 0 0))
    (hk : AtL X ops os k ((d, .slice none 0 0) :: E) ds H) : AtL X ops (⟨some d, .slice xt x lo hi none, ty, pos, after, g⟩ :: os) k E ds H := AtL.ofIs (Do.sliceNil h1 h2 hu hs hx) hg hd hk
/-- append(s, make([]T, n)...). -/
theorem appendZ_run {α : Type} {T : Ty α} {P : Program} {w0 : World} {base : Nat} {w : World} (S : Sep w0 base w H) {t t2 e : TypeId} {ty : TypeId} {z : α} {by_ : Nat} (hT : ElemOk P t e T z by_) (h2 : P.underlying t2 = some (.int .i64))
    {A : Option Addr} {C : Nat} {l : List α} {s : Seg} {i m : Nat} (hi : H[i]? = some s) (ho : Own T e A C l s) (hsz0 : T.sz ≠ 0) (hm : 0 < m) (hgrow : C < l.length + m) (hb : (l.length + m) * by_ ≤ 140737488355328) :
    ∃ A' C' s' w', (Builtin.append_ #[t, t2] ty #[.slice A l.length C, .int .i64 (m : Int)]).run P w = .ok (.slice A' (l ++ List.replicate m z).length C') w' ∧ Own T e A' C' (l ++ List.replicate m z) s' ∧ Sep w0 base w' (H.set i s') := by
  obtain ⟨io, hio, hsz, hby, hz⟩ := hT.info
  have hpos := hT.pos
  have hlen : l.length + m ≤ 140737488355328 := Nat.le_trans (Nat.le_mul_of_pos_right _ hpos) hb
  have hrd : Rd T w0 base H A C l := ho.rd hi
  have hneed : C < l.length + m := hgrow
  have hfits := growslice_fits (bytes := by_) hneed hb
  have hge := grownCap_ge w (l.length + m) C e
  have hcm : grownCap w (l.length + m) C e ≤ maxLen := grownCap_le_maxLen w (l.length + m) C e (by simp only [maxLen]; omega)
  have Sd : Sep w0 base w.drew H := S.drawn _
  have h3 := hrd.first (P := P) Sd l.length (Nat.le_refl _)
  rw [List.take_length] at h3
  refine ⟨some ⟨w.heap.size, 0, none⟩, grownCap w (l.length + m) C e, [(w.heap.size, .cells (T.cells ([] ++ (l ++ List.replicate m z) ++ List.replicate (grownCap w (l.length + m) C e - (l.length + m)) z ++ [])).toArray e (0, 0))], w.drew.alloc (.cells (T.cells ([] ++ (l ++ List.replicate m z) ++ List.replicate (grownCap w (l.length + m) C e - (l.length + m)) z ++ [])).toArray e), ?_,
    ⟨List.replicate (grownCap w (l.length + m) C e - (l.length + m)) z, by simp only [List.length_append, List.length_replicate]; omega, .inr ⟨w.heap.size, [], [], (0, 0), by simp, rfl, frOut_zero _, by simp only [List.length_append, List.length_replicate]; simp only [maxLen] at hcm; omega⟩⟩, Sep.swap (Sd.alloc _) hi⟩
  have hb48 : ¬ (281474976710656 < Builtin.nextslicecap (l.length + m) C * by_) := by omega
  have hmax : ¬ ((9223372036854775807 : Int) < (((l.length + m : Nat)) : Int)) := by omega
  have ez : ∀ q, Builtin.zeroCells (T.val z).cells q = (T.cells (List.replicate q z)).toArray := fun q => by rw [zeroCells_rep, Ty.cells_rep]
  have ecells : (T.cells l).toArray ++ (T.cells (List.replicate m z)).toArray ++ (T.cells (List.replicate (grownCap w (l.length + m) C e - (l.length + m)) z)).toArray = (T.cells ([] ++ (l ++ List.replicate m z) ++ List.replicate (grownCap w (l.length + m) C e - (l.length + m)) z ++ [])).toArray := by
    rw [List.nil_append, List.append_nil, Ty.cells_app, Ty.cells_app]
    apply Array.ext'
    simp only [Array.toList_append]
  have hch : (choose (.appendCap (l.length + m) C e)).run P w = .ok (grownCap w (l.length + m) C e) w.drew := rfl
  have hw : IntKind.i64.wrap (m : Int) = m := w64 (by omega) (by omega)
  have hneg : ¬ ((m : Int) < 0) := by omega
  have hbig : ¬ ((281474976710656 : Int) < (m : Int) * (by_ : Int)) := by
    have h1 : m * by_ ≤ (l.length + m) * by_ := Nat.mul_le_mul_right _ (by omega)
    have h2 : ((m * by_ : Nat) : Int) ≤ 140737488355328 := by omega
    rw [Int.natCast_mul] at h2
    omega
  have hasi : ∀ w : World, (asInt (.int .i64 (m : Int))).run P w = .ok (m : Int) w := fun w => by simp [asInt, asIntOf]
  have hroom : ¬ (l.length + m ≤ C) := by omega
  have hn0 : ¬ (m * T.sz = 0) := by
    intro h
    rcases Nat.mul_eq_zero.1 h with h | h
    · omega
    · exact hsz0 h
  have hmx : IntKind.i64.max = 9223372036854775807 := by decide
  have hcond : ¬ ((((l.length + m : Nat)) : Int) > IntKind.i64.max) := by rw [hmx]; exact hmax
  have h48 : (2 : Int) ^ 48 = 281474976710656 := by decide
  have h48n : (2 : Nat) ^ 48 = 281474976710656 := by decide
  have hbig' : ¬ (((m : Int) * (by_ : Int)) > 2 ^ 48) := by rw [h48]; exact hbig
  have hb48' : ¬ (Builtin.nextslicecap (l.length + m) C * by_ > 2 ^ 48) := by rw [h48n]; exact hb48
  unfold Builtin.append_
  simp only [run_underlying hT.u, run_underlying h2, sizeOf, typeInfo, Sem.run_bind, Result.andThen_ok, Sem.run_pure, run_program, hio, hsz, List.getElem?_toArray, List.getElem?_cons_zero, List.getElem?_cons_succ, if_true, hasi, hw, hneg, if_false, hby, hbig', Int.toNat_natCast, hroom, hcond, false_and, hb48', hch, run_askRoom, h3, Bool.not_true, Bool.false_eq_true, hn0, zeroValue, hz, ez, newRow, run_newObj, ecells]
  simp only [List.length_append, List.length_replicate]
  rfl
theorem AtL.appendZ {α : Type} {T : Ty α} {t t2 e : TypeId} {z : α} {by_ m : Nat} {x y : Operand} {A : Option Addr} {C : Nat} {l : List α} {s : Seg} (i : Nat) (hT : ElemOk X.P t e T z by_) (h2 : X.P.underlying t2 = some (.int .i64)) (hi : H[i]? = some s) (ho : Own T e A C l s) (hsz0 : T.sz ≠ 0) (hm : 0 < m) (hgrow : C < l.length + m) (hb : (l.length + m) * by_ ≤ 140737488355328) (hg : Wd X ops E g) (hd : Nat.blt d X.n = true)
    (hx : ev E x = some (.slice A l.length C)) (hy : ev E y = some (.int .i64 (m : Int)))
    (hk : ∀ A' C' s', Own T e A' C' (l ++ List.replicate m z) s' → AtL X ops os k ((d, .slice A' (l ++ List.replicate m z).length C') :: E) ds (H.set i s')) : AtL X ops (⟨some d, .call ⟨.builtin .append, #[x, y], #[t, t2]⟩, ty, pos, after, g⟩ :: os) k E ds H :=
  AtL.of (R := fun v H' => ∃ A' C' s', Own T e A' C' (l ++ List.replicate m z) s' ∧ v = .slice A' (l ++ List.replicate m z).length C' ∧ H' = H.set i s') (Does.core rfl (fun dst ty pos after g ρ w hρ S => by
    obtain ⟨A', C', s', w', hrun, ho', S'⟩ := appendZ_run (P := X.P) S (ty := ty) hT h2 hi ho hsz0 hm hgrow hb
    refine ⟨_, w', _, ?_, S', A', C', s', ho', rfl, rfl⟩
    simp [execOp, resolve, invoke, builtin, hρ _ _ hx, hρ _ _ hy, hrun])) hg hd fun _ _ ⟨A', C', s', h', hv, hH⟩ => by subst hv; subst hH; exact hk A' C' s' h'
end
end Go.Proofs.YtlkdmbpbjhjkfaaGreatDoor
