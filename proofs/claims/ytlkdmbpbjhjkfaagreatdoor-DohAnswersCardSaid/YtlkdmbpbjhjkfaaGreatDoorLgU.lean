/- A logic for walks: what strings.Builder does with unsafe pointers. -/
import Derived.Test.YtlkdmbpbjhjkfaaGreatDoorLgW
import Derived.Test.YtlkdmbpbjhjkfaaGreatDoorLgS
import Derived.Lib.Builder
import Derived.Lib.UnsafeStr
namespace Go.Proofs.YtlkdmbpbjhjkfaaGreatDoor
open Go.RowKit (Below)
set_option linter.unusedVariables false
set_option linter.unusedSimpArgs false
set_option linter.unusedSectionVars false

section
variable {X : Pt} {k : List Item} {E : Env} {ds : List Deferred} {H : List Seg} {ops : Array Oper} {os : List Oper}
  {d : Nat} {ty : TypeId} {pos : String} {after : Array Edge} {g : Option (Nat × Bool)}
theorem shape_row {w : World} {b : Nat} {cs : Array Value} {e : TypeId} {fr : Nat × Nat} (h : w.heap[b]? = some (.cells cs e fr)) : w.shape? b = some (e, cs.size) := by simp [World.shape?, h]
theorem Do.toUnsafe {src dst t e n : TypeId} {x : Operand} {b o : Nat} {cs : Array Value} {fr : Nat × Nat} {s : Seg} (i j : Nat) (hs : X.P.underlying src = some (.pointer t)) (hd : X.P.underlying dst = some .unsafePointer) (hn : sizeN X.P t n = true) (h0 : n ≠ 0) (hi : H[i]? = some s) (hj : s[j]? = some (b, .cells cs e fr)) (ho : o < cs.size) (hx : ev E x = some (.pointer (some ⟨b, o, none⟩))) : Does X E H (.convert src dst x) (Is (.pointer (some ⟨b, o, none⟩)) H) :=
  Does.core rfl fun dst ty pos after g ρ w hρ S => ⟨_, w, H, by
    obtain ⟨jt, hj1, hj2⟩ : ∃ jt, X.P.info? t = some jt ∧ jt.size = n := by
      unfold sizeN at hn
      cases hq : X.P.info? t with
      | none => rw [hq] at hn; cases hn
      | some jt => rw [hq] at hn; exact ⟨jt, rfl, Nat.eq_of_beq_eq_true hn⟩
    have := Lib.run_to_unsafe (P := X.P) w ⟨b, o, none⟩ hs hd hj1 (by rw [hj2]; exact h0) (shape_row (S.at_ hi hj).1) ho
    simp [execOp, hρ _ _ hx, this], S, rfl, rfl⟩
theorem AtL.toUnsafe {src dst t e n : TypeId} {x : Operand} {b o : Nat} {cs : Array Value} {fr : Nat × Nat} {s : Seg} (i j : Nat) (hs : X.P.underlying src = some (.pointer t)) (hd : X.P.underlying dst = some .unsafePointer) (hn : sizeN X.P t n = true) (h0 : n ≠ 0) (hg : Wd X ops E g) (hd2 : Nat.blt d X.n = true) (hi : H[i]? = some s) (hj : s[j]? = some (b, .cells cs e fr)) (ho : o < cs.size) (hx : ev E x = some (.pointer (some ⟨b, o, none⟩)))
    (hk : AtL X ops os k ((d, .pointer (some ⟨b, o, none⟩)) :: E) ds H) : AtL X ops (⟨some d, .convert src dst x, ty, pos, after, g⟩ :: os) k E ds H := AtL.ofIs (Do.toUnsafe i j hs hd hn h0 hi hj ho hx) hg hd2 hk
theorem AtL.fromUnsafe {src dst u e n : TypeId} {x : Operand} {b o : Nat} {cs : Array Value} {fr : Nat × Nat} {s : Seg} (i j : Nat) (hs : X.P.underlying src = some .unsafePointer) (hd : X.P.underlying dst = some (.pointer u)) (hn : sizeN X.P u n = true) (hg : Wd X ops E g) (hd2 : Nat.blt d X.n = true) (hi : H[i]? = some s) (hj : s[j]? = some (b, .cells cs e fr)) (hl : liesAt X.P X.P.depth e (cs.size / X.P.cellsOf e) o u 1 = true) (hx : ev E x = some (.pointer (some ⟨b, o, none⟩)))
    (hk : AtL X ops os k ((d, .pointer (some ⟨b, o, none⟩)) :: E) ds H) : AtL X ops (⟨some d, .convert src dst x, ty, pos, after, g⟩ :: os) k E ds H :=
  AtL.ofIs (Does.core rfl fun dst ty pos after g ρ w hρ S => ⟨_, w, H, by
    obtain ⟨jt, hj1, hj2⟩ : ∃ jt, X.P.info? u = some jt ∧ jt.size = n := by
      unfold sizeN at hn
      cases hq : X.P.info? u with
      | none => rw [hq] at hn; cases hn
      | some jt => rw [hq] at hn; exact ⟨jt, rfl, Nat.eq_of_beq_eq_true hn⟩
    have := Lib.run_from_unsafe (P := X.P) w ⟨b, o, none⟩ hs hd hj1 (shape_row (S.at_ hi hj).1) hl
    simp [execOp, hρ _ _ hx, this], S, rfl, rfl⟩) hg hd2 hk
theorem eqIn_same {P : Program} {w : World} {q t e n : Nat} {p : Addr} (hu : P.underlying t = some (.pointer e)) (hn : sizeN P e n = true) (h0 : n ≠ 0) : (Op.equalIn (q + 1) t (.pointer (some p)) (.pointer (some p))).run P w = .ok true w := by
  simp [Op.equalIn, run_underlying hu, sizeN_run hn, h0, sameAddr]
theorem Do.nePtrSame {tx tz e n : TypeId} {x y : Operand} {p : Addr} (hu : X.P.underlying tx = some (.pointer e)) (hn : sizeN X.P e n = true) (h0 : n ≠ 0) (hx : ev E x = some (.pointer (some p))) (hy : ev E y = some (.pointer (some p))) : Does X E H (.binOp .neq tx x y tz) (Is (.bool false) H) :=
  Do.neBy rfl rfl hx hy (fun w => eqIn_same hu hn h0)
theorem AtL.nePtrSame {tx tz e n : TypeId} {x y : Operand} {p : Addr} (hu : X.P.underlying tx = some (.pointer e)) (hn : sizeN X.P e n = true) (h0 : n ≠ 0) (hg : Wd X ops E g) (hd : Nat.blt d X.n = true) (hx : ev E x = some (.pointer (some p))) (hy : ev E y = some (.pointer (some p))) (hk : AtL X ops os k ((d, .bool false) :: E) ds H) :
    AtL X ops (⟨some d, .binOp .neq tx x y tz, ty, pos, after, g⟩ :: os) k E ds H := AtL.ofIs (Do.nePtrSame hu hn h0 hx hy) hg hd hk
/-- The address of a slice's row. -/
theorem Do.sliceData {x : Operand} {t : TypeId} {a : Addr} {n C : Nat} (hC : C ≠ 0) (hx : ev E x = some (.slice (some a) n C)) : Does X E H (.call ⟨.builtin .unsafeSliceData, #[x], #[t]⟩) (Is (.pointer (some a)) H) :=
  Does.core rfl fun dst ty pos after g ρ w hρ S => ⟨_, w, H, by
    have := Lib.run_unsafeSliceData_row (P := X.P) w #[t] ty a n C hC
    simp [execOp, resolve, invoke, builtin, hρ _ _ hx, this], S, rfl, rfl⟩
theorem AtL.sliceData {x : Operand} {t : TypeId} {a : Addr} {n C : Nat} (hC : C ≠ 0) (hg : Wd X ops E g) (hd : Nat.blt d X.n = true) (hx : ev E x = some (.slice (some a) n C)) (hk : AtL X ops os k ((d, .pointer (some a)) :: E) ds H) :
    AtL X ops (⟨some d, .call ⟨.builtin .unsafeSliceData, #[x], #[t]⟩, ty, pos, after, g⟩ :: os) k E ds H := AtL.ofIs (Do.sliceData hC hx) hg hd hk
theorem liesAt_bytes {P : Program} {e : TypeId} (hc : P.cellsOf e = 1) (count off n : Nat) (hn : off + n ≤ count) : liesAt P P.depth e count off e n = true := by
  have hd : P.depth = (2 * (P.types.size + Made.depth) + 1) + 1 := rfl
  rw [hd]
  simp only [liesAt, Bool.or_eq_true]
  left
  rw [hd]
  simp [rowAt, hc, hn, sameLayout, Nat.mod_one]
theorem run_unsafeStr {P : Program} {w : World} (pt it ty e : TypeId) (hp : P.underlying pt = some (.pointer e)) (hc : P.cellsOf e = 1) (g o cells : Nat) (hsh : w.shape? g = some (e, cells)) (l : List UInt8) (h0 : l ≠ []) (hn : o + l.length ≤ cells) (h63 : l.length ≤ 9223372036854775807)
    (hcell : ∀ j x, l[j]? = some x → w.cell? ((⟨g, o, none⟩ : Addr).add j) = some (.int .u8 x.toNat)) :
    (Builtin.unsafeString_ #[pt, it] ty #[.pointer (some ⟨g, o, none⟩), .int .i64 l.length]).run P w = .ok (str l) (w.freeze ⟨g, o, none⟩ l.length) := by
  have hl : l.length ≠ 0 := by simpa using h0
  have hlb := Lib.run_loadBytes (P := P) w l ⟨g, o, none⟩ .empty hcell
  have hlies := liesAt_bytes (P := P) hc (cells / P.cellsOf e) o l.length (by rw [hc]; simpa using hn)
  have h63' : ¬ (9223372036854775807 : Int) < (l.length : Int) := by omega
  have hdef : Builtin.unsafeString_ #[pt, it] ty #[.pointer (some ⟨g, o, none⟩), .int .i64 l.length] =
      (do
        let n ← asInt (.int .i64 l.length)
        if n < 0 then runtimePanic (.error "unsafe.String: len out of range")
        if n > IntKind.i64.max then unsupported (.unsafePointer "String: a length above the largest int")
        if n = 0 then pure (.string .empty)
        else if ← variablesAt ⟨g, o, none⟩ (← elemOf pt) n.toNat then do
          let s ← loadBytes ⟨g, o, none⟩ .empty n.toNat
          freeze ⟨g, o, none⟩ n.toNat
          pure (.string s)
        else unsupported (.unsafePointer "String: not so many bytes at ptr")) := rfl
  rw [hdef]
  have hmax : IntKind.i64.max = 9223372036854775807 := rfl
  have hneg : ¬ (l.length : Int) < 0 := by omega
  simp [asInt, asIntOf, hmax, h63', hneg, hl, variablesAt, hsh, elemOf, run_underlying hp, hlies, hlb, str]
/-- A text of the bytes of a row of one's own; the row is no more to be written. -/
theorem Do.unsafeStr {pt it e : TypeId} {x y : Operand} {a : Addr} {C : Nat} {l : List UInt8} {s : Seg} (i : Nat) (hp : X.P.underlying pt = some (.pointer e)) (hc : X.P.cellsOf e = 1) (hi : H[i]? = some s) (ho : Own tyB e (some a) C l s) (h0 : l ≠ []) (hx : ev E x = some (.pointer (some a))) (hy : ev E y = some (.int .i64 (l.length : Int))) :
    Does X E H (.call ⟨.builtin .unsafeString, #[x, y], #[pt, it]⟩) (fun v H' => ∃ s', v = str l ∧ H' = H.set i s') :=
  Does.core rfl fun dst ty pos after g ρ w hρ S => by
    have hle := ho.le_cap
    have hcap := ho.cap_le
    have hrd : Rd tyB X.w0 X.base H (some a) C l := ho.rd hi
    obtain ⟨r, rfl, h⟩ := ho
    rcases h with ⟨h, _⟩ | ⟨gb, pre, post, fr, h, rfl, hfo, hcc⟩
    · cases h
    · cases h
      have hblk := (S.at_ hi (j := 0) rfl).1
      have hlen : pre.length * tyB.sz + l.length ≤ (tyB.cells (pre ++ l ++ r ++ post)).toArray.size := by

        rw [List.size_toArray, Ty.cells_len]
        simp only [List.length_append]
        show pre.length * 1 + l.length ≤ (pre.length + l.length + r.length + post.length) * 1
        omega
      have hrun := run_unsafeStr (P := X.P) (w := w) pt it ty e hp hc gb (pre.length * tyB.sz) _ (shape_row hblk) l h0 hlen (by omega) (fun j x hx => by
        obtain ⟨b', off', hA, hcell⟩ := hrd.cells h0
        cases hA
        rw [addr_add]
        exact hcell w S j _ (by rw [tyB_cells]; simp [hx, byt]))
      have hl0 : l.length ≠ 0 := by simpa using h0
      refine ⟨_, w.freeze ⟨gb, pre.length * tyB.sz, none⟩ l.length, H.set i [(gb, .cells (tyB.cells (pre ++ l ++ r ++ post)).toArray e (if fr.1 == fr.2 then (pre.length * tyB.sz, pre.length * tyB.sz + l.length) else (min fr.1 (pre.length * tyB.sz), max fr.2 (pre.length * tyB.sz + l.length))))], ?_, ?_, [(gb, .cells (tyB.cells (pre ++ l ++ r ++ post)).toArray e (if fr.1 == fr.2 then (pre.length * tyB.sz, pre.length * tyB.sz + l.length) else (min fr.1 (pre.length * tyB.sz), max fr.2 (pre.length * tyB.sz + l.length))))], rfl, rfl⟩
      · simp [execOp, resolve, invoke, builtin, hρ _ _ hx, hρ _ _ hy, hrun]
      · have hlt := (Array.getElem?_eq_some_iff.1 hblk).1
        refine S.write (j := 0) hi rfl _ ?_ ?_ ?_ ?_ ?_ ?_
        · simp [World.freeze, hl0]
        · simp [World.freeze, hl0]
        · simp [World.freeze, hl0]
        · simp [World.freeze, hl0]
        · simp only [World.freeze, hl0, if_false, Array.getElem?_modify, if_true]
          rw [hblk]
          obtain ⟨f1, f2⟩ := fr
          rfl
        · intro q hq
          simp only [World.freeze, hl0, if_false, Array.getElem?_modify]
          rw [if_neg (fun h => hq h.symm)]
end
end Go.Proofs.YtlkdmbpbjhjkfaaGreatDoor
