/- The parts of the proof that this law needs, in the order of their texts: the logic of walks, the plain laws, the walks. -/
import Derived.Test.YtdncjmehhahidaaGreatDoorQA01
import Derived.Test.YtdncjmehhahidaaGreatDoorQA05
import Derived.Test.YtdncjmehhahidaaGreatDoorQA10
namespace Go.Proofs.YtdncjmehhahidaaGreatDoor
open Go.RowKit (Below)
set_option linter.unusedVariables false
set_option linter.unusedSimpArgs false
section flats
variable {X : Pt} {k : List Item} {E : Env} {ds : List Deferred} {H H' : List Seg} {ops : Array Oper} {os : List Oper}
end flats
theorem Does.pick {X : Pt} {E : Env} {H H' : List Seg} {op : Op} {R : Value → List Seg → Prop} (is : List Nat) (m : Nat) (hok : pickOk is m = true) (hH : pickSegs H is m = H') (h : Does X E H' op R) : Does X E H op R := by
  intro dst ty pos after g ops i is' k ds a w ho hw ha S
  exact h dst ty pos after g ops i is' k ds a w ho hw ha (hH ▸ S.pick is m hok)
section views
variable {α : Type} {T : Ty α} {w0 : World} {base : Nat} {H H' : List Seg} {A : Option Addr} {C : Nat} {l : List α} {e : TypeId} {s : Seg}
theorem Rd.pick (is : List Nat) (m : Nat) (hok : pickOk is m = true) (hH : pickSegs H is m = H') (h : Rd T w0 base H' A C l) : Rd T w0 base H A C l :=
  ⟨h.le, h.cap, h.nil, fun hl => let ⟨b, off, hA, hc⟩ := h.cells hl; ⟨b, off, hA, fun w S => hc w (hH ▸ S.pick is m hok)⟩⟩
end views
theorem Does.quiet {X : Pt} {E : Env} {H H' : List Seg} {op : Op} {v : Value} (is : List Nat) (m : Nat) (hok : pickOk is m = true) (hH : pickSegs H is m = H') (is2 : List Nat) (hok2 : pickOk is2 m = true) (hH2 : pickSegs H' is2 m = H) (h : Does X E H' op (Is v H')) : Does X E H op (Is v H) := by
  intro dst ty pos after g ops i is' k ds a w ho hw ha S
  obtain ⟨v', H1, w', ⟨h1, h2⟩, S', hs⟩ := h dst ty pos after g ops i is' k ds a w ho hw ha (hH ▸ S.pick is m hok)
  subst h2
  exact ⟨v', H, w', ⟨h1, rfl⟩, hH2 ▸ S'.pick is2 m hok2, hs⟩
def Sl.v {α : Type} {T : Ty α} {e : TypeId} (y : Sl T e) : Vs α := ⟨y.A, y.C, y.l⟩
section bundles
variable {α : Type} {T : Ty α} {w0 : World} {base : Nat} {H : List Seg} {e : TypeId}
theorem Sl.rd (y : Sl T e) {i : Nat} (hi : H[i]? = some y.s) : Rd T w0 base H y.A y.C y.l := y.own.rd hi
end bundles
theorem getD_mem {α : Type} {l : List α} {i : Nat} {d : α} (h : i < l.length) : l.getD i d ∈ l := by
  have : l.getD i d = l[i] := by simp [List.getD, h]
  rw [this]; exact List.getElem_mem h
section windows
variable {α : Type} {T : Ty α} {e : TypeId} {A : Option Addr} {C : Nat} {l : List α} {s : Seg}
end windows
section loops
variable {X : Pt} {k : List Item} {E : Env} {ds : List Deferred} {H : List Seg}
end loops
end Go.Proofs.YtdncjmehhahidaaGreatDoor
namespace Go.Proofs.YtdncjmehhahidaaGreatDoor
set_option maxRecDepth 100000
theorem tf_sz5 : sizeN Tryz.prog 5 1 = true := by kernel_rfl
theorem tf_zero5 : zeroV Tryz.prog 5 = some (.int .u8 0) := by kernel_rfl
theorem tf_flat9 : flatB Tryz.prog 9 = true := by kernel_rfl
theorem tf_sz9 : sizeN Tryz.prog 9 1 = true := by kernel_rfl
theorem tf_flat22 : flatB Tryz.prog 22 = true := by kernel_rfl
theorem tf_sz22 : sizeN Tryz.prog 22 1 = true := by kernel_rfl
theorem tf_el22 : ElemOk Tryz.prog 22 5 tyB (0 : UInt8) 1 := ElemOk.of Tryz.underlying22 (by kernel_rfl) (by kernel_rfl) rfl
theorem tf_flat254 : flatB Tryz.prog 254 = true := by kernel_rfl
theorem tf_sz254 : sizeN Tryz.prog 254 1 = true := by kernel_rfl
theorem tf_sz256 : sizeN Tryz.prog 256 2 = true := by kernel_rfl
theorem tf_zero256 : zeroV Tryz.prog 256 = some (.agg #[.pointer none, .slice none 0 0]) := by kernel_rfl
theorem tf_fo256_0 : fieldOff Tryz.prog 256 0 = some 0 := by kernel_rfl
theorem tf_fo256_1 : fieldOff Tryz.prog 256 1 = some 1 := by kernel_rfl
theorem tf_mixed : Tryz.prog.follows .mixedOrders = true := by kernel_rfl
theorem tf_body128 : Body Tryz.prog 128 := Body.of (by kernel_rfl)
theorem tf_body129 : Body Tryz.prog 129 := Body.of (by kernel_rfl)
theorem tf_body130 : Body Tryz.prog 130 := Body.of (by kernel_rfl)
theorem tf_body131 : Body Tryz.prog 131 := Body.of (by kernel_rfl)
theorem tf_body206 : Body Tryz.prog 206 := Body.of (by kernel_rfl)
end Go.Proofs.YtdncjmehhahidaaGreatDoor
namespace Go.Proofs.YtdncjmehhahidaaGreatDoor
open Go.RowKit (Below)
set_option linter.unusedVariables false
set_option linter.unusedSimpArgs false
theorem Sep.kept {w0 : World} {base : Nat} {w w' : World} {H : List Seg} (S : Sep w0 base w H) (h : Below w.heap.size w w') : Sep w0 base w' H := by
  refine ⟨⟨h.os.trans S.below.os, h.tape.trans S.below.tape, h.output.trans S.below.output, Nat.le_trans S.below.size h.size, fun k hk => (h.block k (Nat.lt_of_lt_of_le hk S.base_le)).trans (S.below.block k hk)⟩, S.le, fun p hp => ⟨(S.mem p hp).1, (h.block p.1 (S.lt hp)).trans (S.mem p hp).2⟩, S.nodup⟩
section calls
variable {P : Program} {f : FuncId} {args : List Value} {w0 : World} {base : Nat} {H : List Seg}
theorem SCalls.of_below {v : Value} (h : ∀ w, Sep w0 base w H → Calls P f args.toArray w fun e w' => e = .returned v ∧ Below w.heap.size w w') : SCalls P f args w0 base H (fun u H' => u = v ∧ H' = H) :=
  fun w S => (h w S).mono fun e w' ⟨he, hw⟩ => ⟨v, H, he, ⟨rfl, rfl⟩, S.kept hw⟩
theorem Sep.cellBelow {w : World} (S : Sep w0 base w H) {b o : Nat} {v : Value} (hb : b < base) (h : w0.cell? ⟨b, o, none⟩ = some v) : w.cell? ⟨b, o, none⟩ = some v := by
  have h2 := S.below.block b hb
  rw [← h]
  simp only [World.cell?, h2]
end calls
end Go.Proofs.YtdncjmehhahidaaGreatDoor
namespace Go.Proofs.YtdncjmehhahidaaGreatDoor
open Go.RowKit (Below)
set_option linter.unusedVariables false
set_option linter.unusedSimpArgs false
section
variable {X : Pt} {k : List Item} {E : Env} {ds : List Deferred} {H : List Seg} {ops : Array Oper} {os : List Oper}
  {d : Nat} {ty : TypeId} {pos : String} {after : Array Edge} {g : Option (Nat × Bool)}
theorem Do.callX {f : FuncId} {xs : Array Operand} {ts : Array TypeId} {args : List Value} {v : Value} (hx : evs E xs.toList = some args) (hr : ∀ w, Sep X.w0 X.base w H → (callFunc f args.toArray).run X.P w = .ok (.value v) w) : Does X E H (.call ⟨.value (.func f), xs, ts⟩) (Is v H) :=
  Does.core rfl fun dst ty pos after g ρ w hρ S => ⟨v, w, H, by
    have hf : ρ (.func f) = .func (.func f) #[] #[] := hρ _ _ rfl
    simp only [execOp, resolve, hf, Deferred.ofValue, evs_arr hρ hx, invoke, Sem.run_bind, Sem.run_pure, Result.andThen_ok]
    simpa using hr w S, S, rfl, rfl⟩
theorem AtL.callX {f : FuncId} {xs : Array Operand} {ts : Array TypeId} {args : List Value} {v : Value} (hr : ∀ w, Sep X.w0 X.base w H → (callFunc f args.toArray).run X.P w = .ok (.value v) w) (hg : Wd X ops E g) (hd : Nat.blt d X.n = true) (hx : evs E xs.toList = some args) 
    (hk : AtL X ops os k ((d, v) :: E) ds H) : AtL X ops (⟨some d, .call ⟨.value (.func f), xs, ts⟩, ty, pos, after, g⟩ :: os) k E ds H := AtL.ofIs (Do.callX hx hr) hg hd hk
theorem Cell.below {w0 : World} {base b o : Nat} {v : Value} (hb : b < base) (h : w0.cell? ⟨b, o, none⟩ = some v) : Cell w0 base H ⟨b, o, none⟩ v := fun w S => S.cellBelow hb h
end
end Go.Proofs.YtdncjmehhahidaaGreatDoor
namespace Go.Proofs.YtdncjmehhahidaaGreatDoor
open Go.RowKit (Below)
set_option linter.unusedVariables false
set_option linter.unusedSimpArgs false
set_option linter.unusedSectionVars false
section
variable {X : Pt} {k : List Item} {E : Env} {ds : List Deferred} {H : List Seg} {ops : Array Oper} {os : List Oper}
  {d : Nat} {ty : TypeId} {pos : String} {after : Array Edge} {g : Option (Nat × Bool)}
theorem shape_row {w : World} {b : Nat} {cs : Array Value} {e : TypeId} {fr : Nat × Nat} (h : w.heap[b]? = some (.cells cs e fr)) : w.shape? b = some (e, cs.size) := by simp [World.shape?, h]
theorem Do.toUnsafe {src dst t e n : TypeId} {x : Operand} {b o : Nat} {cs : Array Value} {fr : Nat × Nat} {s : Seg} (i j : Nat) (hs : X.P.underlying src = some (.pointer t)) (hd : X.P.underlying dst = some .unsafePointer) (hn : sizeN X.P t n = true) (h0 : n ≠ 0) (hi : H[i]? = some s) (hj : s[j]? = some (b, .cells cs e fr)) (ho : o < cs.size) (hx : ev E x = some (.pointer (some ⟨b, o, none⟩))) : Does X E H (.convert src dst x) (Is (.pointer (some ⟨b, o, none⟩)) H) :=
  Does.core rfl fun dst ty pos after g ρ w hρ S => ⟨_, w, H, by
    obtain ⟨jt, hj1, hj2⟩ : ∃ jt, X.P.info? t = some jt ∧ jt.size = n := by
      unfold sizeN at hn
      cases hq : X.P.info? t with
      | none => rw [hq] at hn; cases hn
      | some jt => rw [hq] at hn; exact ⟨jt, rfl, Nat.eq_of_beq_eq_true hn⟩
    have := Lib.run_to_unsafe (P := X.P) w ⟨b, o, none⟩ hs hd hj1 (by rw [hj2]; exact h0) (shape_row (S.at_ hi hj).1) ho
    simp [execOp, hρ _ _ hx, this], S, rfl, rfl⟩
theorem AtL.toUnsafe {src dst t e n : TypeId} {x : Operand} {b o : Nat} {cs : Array Value} {fr : Nat × Nat} {s : Seg} (i j : Nat) (hs : X.P.underlying src = some (.pointer t)) (hd : X.P.underlying dst = some .unsafePointer) (hn : sizeN X.P t n = true) (h0 : n ≠ 0) (hg : Wd X ops E g) (hd2 : Nat.blt d X.n = true) (hi : H[i]? = some s) (hj : s[j]? = some (b, .cells cs e fr)) (ho : o < cs.size) (hx : ev E x = some (.pointer (some ⟨b, o, none⟩)))
    (hk : AtL X ops os k ((d, .pointer (some ⟨b, o, none⟩)) :: E) ds H) : AtL X ops (⟨some d, .convert src dst x, ty, pos, after, g⟩ :: os) k E ds H := AtL.ofIs (Do.toUnsafe i j hs hd hn h0 hi hj ho hx) hg hd2 hk
theorem AtL.fromUnsafe {src dst u e n : TypeId} {x : Operand} {b o : Nat} {cs : Array Value} {fr : Nat × Nat} {s : Seg} (i j : Nat) (hs : X.P.underlying src = some .unsafePointer) (hd : X.P.underlying dst = some (.pointer u)) (hn : sizeN X.P u n = true) (hg : Wd X ops E g) (hd2 : Nat.blt d X.n = true) (hi : H[i]? = some s) (hj : s[j]? = some (b, .cells cs e fr)) (hl : liesAt X.P X.P.depth e (cs.size / X.P.cellsOf e) o u 1 = true) (hx : ev E x = some (.pointer (some ⟨b, o, none⟩)))
    (hk : AtL X ops os k ((d, .pointer (some ⟨b, o, none⟩)) :: E) ds H) : AtL X ops (⟨some d, .convert src dst x, ty, pos, after, g⟩ :: os) k E ds H :=
  AtL.ofIs (Does.core rfl fun dst ty pos after g ρ w hρ S => ⟨_, w, H, by
    obtain ⟨jt, hj1, hj2⟩ : ∃ jt, X.P.info? u = some jt ∧ jt.size = n := by
      unfold sizeN at hn
      cases hq : X.P.info? u with
      | none => rw [hq] at hn; cases hn
      | some jt => rw [hq] at hn; exact ⟨jt, rfl, Nat.eq_of_beq_eq_true hn⟩
    have := Lib.run_from_unsafe (P := X.P) w ⟨b, o, none⟩ hs hd hj1 (shape_row (S.at_ hi hj).1) hl
    simp [execOp, hρ _ _ hx, this], S, rfl, rfl⟩) hg hd2 hk
theorem eqIn_same {P : Program} {w : World} {q t e n : Nat} {p : Addr} (hu : P.underlying t = some (.pointer e)) (hn : sizeN P e n = true) (h0 : n ≠ 0) : (Op.equalIn (q + 1) t (.pointer (some p)) (.pointer (some p))).run P w = .ok true w := by
  simp [Op.equalIn, run_underlying hu, sizeN_run hn, h0, sameAddr]
theorem Do.nePtrSame {tx tz e n : TypeId} {x y : Operand} {p : Addr} (hu : X.P.underlying tx = some (.pointer e)) (hn : sizeN X.P e n = true) (h0 : n ≠ 0) (hx : ev E x = some (.pointer (some p))) (hy : ev E y = some (.pointer (some p))) : Does X E H (.binOp .neq tx x y tz) (Is (.bool false) H) :=
  Do.neBy rfl rfl hx hy (fun w => eqIn_same hu hn h0)
theorem AtL.nePtrSame {tx tz e n : TypeId} {x y : Operand} {p : Addr} (hu : X.P.underlying tx = some (.pointer e)) (hn : sizeN X.P e n = true) (h0 : n ≠ 0) (hg : Wd X ops E g) (hd : Nat.blt d X.n = true) (hx : ev E x = some (.pointer (some p))) (hy : ev E y = some (.pointer (some p))) (hk : AtL X ops os k ((d, .bool false) :: E) ds H) :
    AtL X ops (⟨some d, .binOp .neq tx x y tz, ty, pos, after, g⟩ :: os) k E ds H := AtL.ofIs (Do.nePtrSame hu hn h0 hx hy) hg hd hk
theorem Do.sliceData {x : Operand} {t : TypeId} {a : Addr} {n C : Nat} (hC : C ≠ 0) (hx : ev E x = some (.slice (some a) n C)) : Does X E H (.call ⟨.builtin .unsafeSliceData, #[x], #[t]⟩) (Is (.pointer (some a)) H) :=
  Does.core rfl fun dst ty pos after g ρ w hρ S => ⟨_, w, H, by
    have := Lib.run_unsafeSliceData_row (P := X.P) w #[t] ty a n C hC
    simp [execOp, resolve, invoke, builtin, hρ _ _ hx, this], S, rfl, rfl⟩
theorem liesAt_bytes {P : Program} {e : TypeId} (hc : P.cellsOf e = 1) (count off n : Nat) (hn : off + n ≤ count) : liesAt P P.depth e count off e n = true := by
  have hd : P.depth = (2 * (P.types.size + Made.depth) + 1) + 1 := rfl
  rw [hd]
  simp only [liesAt, Bool.or_eq_true]
  left
  rw [hd]
  simp [rowAt, hc, hn, sameLayout, Nat.mod_one]
theorem run_unsafeStr {P : Program} {w : World} (pt it ty e : TypeId) (hp : P.underlying pt = some (.pointer e)) (hc : P.cellsOf e = 1) (g o cells : Nat) (hsh : w.shape? g = some (e, cells)) (l : List UInt8) (h0 : l ≠ []) (hn : o + l.length ≤ cells) (h63 : l.length ≤ 9223372036854775807)
    (hcell : ∀ j x, l[j]? = some x → w.cell? ((⟨g, o, none⟩ : Addr).add j) = some (.int .u8 x.toNat)) :
    (Builtin.unsafeString_ #[pt, it] ty #[.pointer (some ⟨g, o, none⟩), .int .i64 l.length]).run P w = .ok (str l) (w.freeze ⟨g, o, none⟩ l.length) := by
  have hl : l.length ≠ 0 := by simpa using h0
  have hlb := Lib.run_loadBytes (P := P) w l ⟨g, o, none⟩ .empty hcell
  have hlies := liesAt_bytes (P := P) hc (cells / P.cellsOf e) o l.length (by rw [hc]; simpa using hn)
  have h63' : ¬ (9223372036854775807 : Int) < (l.length : Int) := by omega
  have hdef : Builtin.unsafeString_ #[pt, it] ty #[.pointer (some ⟨g, o, none⟩), .int .i64 l.length] =
      (do
        let n ← asInt (.int .i64 l.length)
        if n < 0 then runtimePanic (.error "unsafe.String: len out of range")
        if n > IntKind.i64.max then unsupported (.unsafePointer "String: a length above the largest int")
        if n = 0 then pure (.string .empty)
        else if ← variablesAt ⟨g, o, none⟩ (← elemOf pt) n.toNat then do
          let s ← loadBytes ⟨g, o, none⟩ .empty n.toNat
          freeze ⟨g, o, none⟩ n.toNat
          pure (.string s)
        else unsupported (.unsafePointer "String: not so many bytes at ptr")) := rfl
  rw [hdef]
  have hmax : IntKind.i64.max = 9223372036854775807 := rfl
  have hneg : ¬ (l.length : Int) < 0 := by omega
  simp [asInt, asIntOf, hmax, h63', hneg, hl, variablesAt, hsh, elemOf, run_underlying hp, hlies, hlb, str]
theorem Do.unsafeStr {pt it e : TypeId} {x y : Operand} {a : Addr} {C : Nat} {l : List UInt8} {s : Seg} (i : Nat) (hp : X.P.underlying pt = some (.pointer e)) (hc : X.P.cellsOf e = 1) (hi : H[i]? = some s) (ho : Own tyB e (some a) C l s) (h0 : l ≠ []) (hx : ev E x = some (.pointer (some a))) (hy : ev E y = some (.int .i64 (l.length : Int))) :
    Does X E H (.call ⟨.builtin .unsafeString, #[x, y], #[pt, it]⟩) (fun v H' => ∃ s', v = str l ∧ H' = H.set i s') :=
  Does.core rfl fun dst ty pos after g ρ w hρ S => by
    have hle := ho.le_cap
    have hcap := ho.cap_le
    have hrd : Rd tyB X.w0 X.base H (some a) C l := ho.rd hi
    obtain ⟨r, rfl, h⟩ := ho
    rcases h with ⟨h, _⟩ | ⟨gb, pre, post, fr, h, rfl, hfo, hcc⟩
    · cases h
    · cases h
      have hblk := (S.at_ hi (j := 0) rfl).1
      have hlen : pre.length * tyB.sz + l.length ≤ (tyB.cells (pre ++ l ++ r ++ post)).toArray.size := by

        rw [List.size_toArray, Ty.cells_len]
        simp only [List.length_append]
        show pre.length * 1 + l.length ≤ (pre.length + l.length + r.length + post.length) * 1
        omega
      have hrun := run_unsafeStr (P := X.P) (w := w) pt it ty e hp hc gb (pre.length * tyB.sz) _ (shape_row hblk) l h0 hlen (by omega) (fun j x hx => by
        obtain ⟨b', off', hA, hcell⟩ := hrd.cells h0
        cases hA
        rw [addr_add]
        exact hcell w S j _ (by rw [tyB_cells]; simp [hx, byt]))
      have hl0 : l.length ≠ 0 := by simpa using h0
      refine ⟨_, w.freeze ⟨gb, pre.length * tyB.sz, none⟩ l.length, H.set i [(gb, .cells (tyB.cells (pre ++ l ++ r ++ post)).toArray e (if fr.1 == fr.2 then (pre.length * tyB.sz, pre.length * tyB.sz + l.length) else (min fr.1 (pre.length * tyB.sz), max fr.2 (pre.length * tyB.sz + l.length))))], ?_, ?_, [(gb, .cells (tyB.cells (pre ++ l ++ r ++ post)).toArray e (if fr.1 == fr.2 then (pre.length * tyB.sz, pre.length * tyB.sz + l.length) else (min fr.1 (pre.length * tyB.sz), max fr.2 (pre.length * tyB.sz + l.length))))], rfl, rfl⟩
      · simp [execOp, resolve, invoke, builtin, hρ _ _ hx, hρ _ _ hy, hrun]
      · have hlt := (Array.getElem?_eq_some_iff.1 hblk).1
        refine S.write (j := 0) hi rfl _ ?_ ?_ ?_ ?_ ?_ ?_
        · simp [World.freeze, hl0]
        · simp [World.freeze, hl0]
        · simp [World.freeze, hl0]
        · simp [World.freeze, hl0]
        · simp only [World.freeze, hl0, if_false, Array.getElem?_modify, if_true]
          rw [hblk]
          obtain ⟨f1, f2⟩ := fr
          rfl
        · intro q hq
          simp only [World.freeze, hl0, if_false, Array.getElem?_modify]
          rw [if_neg (fun h => hq h.symm)]
end
end Go.Proofs.YtdncjmehhahidaaGreatDoor
namespace Go.Proofs.YtdncjmehhahidaaGreatDoor
set_option linter.unusedVariables false
set_option linter.unusedSimpArgs false
set_option maxRecDepth 100000
theorem noesc (x : Value) (w : World) : (callFunc 278 #[x]).run Tryz.prog w = .ok (.value x) w := by
  rw [run_callFunc_extern Tryz.func278 (by kernel_rfl) (by kernel_rfl) (by kernel_rfl) (e := Extern.AbiNoEscape.same) (by kernel_rfl)]
  rfl
set_option maxHeartbeats 400000 in
theorem bchk_new {w0 : World} {base : Nat} {H : List Seg} {b : Nat} {v : Value} :
    SCalls Tryz.prog 206 [.pointer (some ⟨b, 0, none⟩)] w0 base ([(b, .cells #[.pointer none, v] 256 (0, 0))] :: H) (fun u H' => u = .tuple #[] ∧ H' = [(b, .cells #[.pointer (some ⟨b, 0, none⟩), v] 256 (0, 0))] :: H) := by
  refine SCalls.of_walk (n := 20) Tryz.func206 rfl rfl rfl fun cs => ?_
  refine At.seq ?_
  refine At.region ?_
  refine AtL.move (.inl rfl) rfl rfl ?_
  refine AtL.nilCheck (.inl rfl) rfl rfl ?_
  refine AtL.fieldAddrB tf_fo256_0 (.inl rfl) rfl rfl rfl ?_
  refine AtL.load tf_flat254 (.inl rfl) rfl rfl (Cell.own 0 0 rfl rfl rfl) ?_
  refine AtL.eqPtrNil Tryz.underlying254 (.inl rfl) rfl rfl rfl ?_
  refine AtL.done ?_
  refine At.condT rfl ?_
  refine At.region ?_
  refine AtL.move (.inl rfl) rfl rfl ?_
  refine AtL.move (.inl rfl) rfl rfl ?_
  refine AtL.toUnsafe (n := 2) 0 0 Tryz.underlying254 Tryz.underlying470 tf_sz256 (by decide) (.inl rfl) rfl rfl rfl (by simp) rfl ?_
  refine AtL.callX (v := .pointer (some ⟨b, 0, none⟩)) (fun w S => noesc _ w) (.inl rfl) rfl rfl ?_
  refine AtL.fromUnsafe 0 0 Tryz.underlying470 Tryz.underlying254 tf_sz256 (.inl rfl) rfl rfl rfl (by kernel_rfl) rfl ?_
  refine AtL.nilCheck (.inl rfl) rfl rfl ?_
  refine AtL.fieldAddrB tf_fo256_0 (.inl rfl) rfl rfl rfl ?_
  refine AtL.store (H' := [(b, .cells #[.pointer (some ⟨b, 0, none⟩), v] 256 (0, 0))] :: H) 0 0 tf_sz254 (.inl rfl) rfl rfl rfl rfl rfl rfl rfl rfl rfl ?_
  refine AtL.done ?_
  exact At.end_ Tryz.func206 rfl rfl (⟨rfl, rfl⟩)
set_option maxHeartbeats 400000 in
theorem bchk_old {w0 : World} {base : Nat} {H : List Seg} {b : Nat} {v : Value} :
    SCalls Tryz.prog 206 [.pointer (some ⟨b, 0, none⟩)] w0 base ([(b, .cells #[.pointer (some ⟨b, 0, none⟩), v] 256 (0, 0))] :: H) (fun u H' => u = .tuple #[] ∧ H' = [(b, .cells #[.pointer (some ⟨b, 0, none⟩), v] 256 (0, 0))] :: H) := by
  refine SCalls.of_walk (n := 20) Tryz.func206 rfl rfl rfl fun cs => ?_
  refine At.seq ?_
  refine At.region ?_
  refine AtL.move (.inl rfl) rfl rfl ?_
  refine AtL.nilCheck (.inl rfl) rfl rfl ?_
  refine AtL.fieldAddrB tf_fo256_0 (.inl rfl) rfl rfl rfl ?_
  refine AtL.load tf_flat254 (.inl rfl) rfl rfl (Cell.own 0 0 rfl rfl rfl) ?_
  refine AtL.eqPtrNil Tryz.underlying254 (.inl rfl) rfl rfl rfl ?_
  refine AtL.done ?_
  refine At.condF rfl ?_
  refine At.seq ?_
  refine At.region ?_
  refine AtL.move (.inl rfl) rfl rfl ?_
  refine AtL.nilCheck (.inl rfl) rfl rfl ?_
  refine AtL.fieldAddrB tf_fo256_0 (.inl rfl) rfl rfl rfl ?_
  refine AtL.load tf_flat254 (.inl rfl) rfl rfl (Cell.own 0 0 rfl rfl rfl) ?_
  refine AtL.move (.inl rfl) rfl rfl ?_
  refine AtL.nePtrSame (n := 2) Tryz.underlying254 tf_sz256 (by decide) (.inl rfl) rfl rfl rfl ?_
  refine AtL.done ?_
  refine At.condF rfl ?_
  refine At.skip ?_
  exact At.end_ Tryz.func206 rfl rfl (⟨rfl, rfl⟩)
def bown (b : Nat) (p : Value) : Prop := p = .pointer none ∨ p = .pointer (some ⟨b, 0, none⟩)
theorem bchk_ok {w0 : World} {base : Nat} {H : List Seg} {b : Nat} {p v : Value} (h : bown b p) : SCalls Tryz.prog 206 [.pointer (some ⟨b, 0, none⟩)] w0 base ([(b, .cells #[p, v] 256 (0, 0))] :: H) (fun u H' => u = .tuple #[] ∧ H' = [(b, .cells #[.pointer (some ⟨b, 0, none⟩), v] 256 (0, 0))] :: H) := by
  rcases h with rfl | rfl
  · exact bchk_new
  · exact bchk_old
set_option maxHeartbeats 400000 in
theorem bwrite_ok {w0 : World} {base : Nat} {H : List Seg} {b : Nat} {p : Value} (hp : bown b p) {x : Sl tyB 5} {v : List UInt8} (hl : x.l.length + v.length ≤ 140737488355328) :
    SCalls Tryz.prog 129 [.pointer (some ⟨b, 0, none⟩), str v] w0 base (x.s :: [(b, .cells #[p, .slice x.A x.l.length x.C] 256 (0, 0))] :: H) (fun u H' => ∃ y : Sl tyB 5, y.l = x.l ++ v ∧ u = .tuple #[int (v.length : Int), .nilIface] ∧ H' = y.s :: [(b, .cells #[.pointer (some ⟨b, 0, none⟩), .slice y.A y.l.length y.C] 256 (0, 0))] :: H) := by
  refine SCalls.of_walk (n := 19) Tryz.func129 rfl rfl rfl fun cs => ?_
  refine At.seq ?_
  refine At.region ?_
  refine AtL.assign (.inl rfl) rfl rfl ?_
  refine AtL.assign (.inl rfl) rfl rfl ?_
  refine AtL.done ?_
  refine At.seq ?_
  refine At.region ?_
  refine AtL.move (.inl rfl) rfl rfl ?_
  refine AtL.pick (H' := [(b, .cells #[p, .slice x.A x.l.length x.C] 256 (0, 0))] :: x.s :: H) [1, 0] 2 rfl rfl ?_
  refine AtL.call tf_body206 (.inl rfl) rfl rfl (bchk_ok hp) ?_
  rintro _ _ ⟨rfl, rfl⟩
  refine AtL.done ?_
  refine At.seq ?_
  refine At.region ?_
  refine AtL.move (.inl rfl) rfl rfl ?_
  refine AtL.move (.inl rfl) rfl rfl ?_
  refine AtL.nilCheck (.inl rfl) rfl rfl ?_
  refine AtL.fieldAddrB tf_fo256_1 (.inl rfl) rfl rfl rfl ?_
  refine AtL.load tf_flat22 (.inl rfl) rfl rfl (Cell.own 0 0 rfl rfl rfl) ?_
  refine AtL.move (.inl rfl) rfl rfl ?_
  refine AtL.appendS (l := x.l) (news := v) 1 tf_el22 Tryz.underlying9 rfl x.own (by omega) (.inl rfl) rfl rfl rfl ?_
  intro A1 C2 s3 o4
  refine AtL.nilCheck (.inl rfl) rfl rfl ?_
  refine AtL.fieldAddrB tf_fo256_1 (.inl rfl) rfl rfl rfl ?_
  refine AtL.store (H' := [(b, .cells #[.pointer (some ⟨b, 0, none⟩), .slice A1 (x.l ++ v).length C2] 256 (0, 0))] :: s3 :: H) 0 0 tf_sz22 (.inl rfl) rfl rfl rfl rfl rfl rfl rfl rfl rfl ?_
  refine AtL.done ?_
  refine At.seq ?_
  refine At.region ?_
  refine AtL.move (.inl rfl) rfl rfl ?_
  refine AtL.lenS (l := v) Tryz.underlying9 (.inl rfl) rfl rfl ?_
  refine AtL.assign (.inl rfl) rfl rfl ?_
  refine AtL.assign (.inl rfl) rfl rfl ?_
  refine AtL.done ?_
  refine At.pick (H' := s3 :: [(b, .cells #[.pointer (some ⟨b, 0, none⟩), .slice A1 (x.l ++ v).length C2] 256 (0, 0))] :: H) [1, 0] 2 rfl rfl ?_
  exact At.ret Tryz.func129 rfl rfl (⟨⟨A1, C2, x.l ++ v, s3, o4⟩, rfl, rfl, rfl⟩)
set_option maxHeartbeats 400000 in
theorem bstring_ok {w0 : World} {base : Nat} {H : List Seg} {b : Nat} {p : Value} {a : Addr} {C : Nat} {l : List UInt8} {s : Seg} (o : Own tyB 5 (some a) C l s) (h0 : l ≠ []) (hl0 : l.length ≠ 0) (hC : C ≠ 0) :
    SCalls Tryz.prog 131 [.pointer (some ⟨b, 0, none⟩)] w0 base (s :: [(b, .cells #[p, .slice (some a) l.length C] 256 (0, 0))] :: H) (fun u H' => ∃ s', u = str l ∧ H' = s' :: H) := by
  refine SCalls.of_walk (n := 14) Tryz.func131 rfl rfl rfl fun cs => ?_
  refine At.seq ?_
  refine At.region ?_
  refine AtL.assign (.inl rfl) rfl rfl ?_
  refine AtL.done ?_
  refine At.seq ?_
  refine At.draw (es := [10]) (pv := [(0, .pointer (some ⟨b, 0, none⟩)), (1, .pointer (some ⟨b, 0, none⟩)), (2, .pointer (some ⟨b, 1, none⟩)), (3, .slice (some a) l.length C), (4, .pointer (some a)), (5, .pointer (some ⟨b, 0, none⟩)), (6, .pointer (some ⟨b, 0, none⟩)), (7, .pointer (some ⟨b, 1, none⟩)), (8, .slice (some a) l.length C), (9, .int .i64 (l.length : Int))]) tf_mixed (by kernel_rfl) (by kernel_rfl) (by kernel_rfl) ?_
  refine ⟨⟨.inr ⟨_, rfl, rfl, .inl ⟨rfl, Do.move rfl⟩⟩, .inr ⟨_, rfl, rfl, .inl ⟨rfl, Do.nilCheck rfl⟩⟩, .inr ⟨_, rfl, rfl, .inl ⟨rfl, Do.fieldAddrB tf_fo256_1 rfl rfl⟩⟩, .inr ⟨_, rfl, rfl, .inl ⟨rfl, Do.load tf_flat22 rfl (Cell.own 1 0 rfl rfl rfl)⟩⟩, .inr ⟨_, rfl, rfl, .inl ⟨rfl, Do.sliceData hC rfl⟩⟩, .inr ⟨_, rfl, rfl, .inl ⟨rfl, Do.move rfl⟩⟩, .inr ⟨_, rfl, rfl, .inl ⟨rfl, Do.nilCheck rfl⟩⟩, .inr ⟨_, rfl, rfl, .inl ⟨rfl, Do.fieldAddrB tf_fo256_1 rfl rfl⟩⟩, .inr ⟨_, rfl, rfl, .inl ⟨rfl, Do.load tf_flat22 rfl (Cell.own 1 0 rfl rfl rfl)⟩⟩, .inr ⟨_, rfl, rfl, .inl ⟨rfl, Do.lenL Tryz.underlying22 rfl⟩⟩, trivial⟩, rfl, rfl, by kernel_rfl, _, rfl, rfl, rfl, _, Do.unsafeStr (l := l) 0 Tryz.underlying373 (by kernel_rfl) rfl o h0 rfl rfl, ?_⟩
  rintro _ _ ⟨s1, rfl, rfl⟩
  refine ⟨[(11, str l)], rfl, ?_⟩
  refine ⟨⟨.inr ⟨_, rfl, rfl, .inl ⟨rfl, Do.assign rfl⟩⟩, .inl (by kernel_rfl), .inl (by kernel_rfl), .inl (by kernel_rfl), .inl (by kernel_rfl), .inl (by kernel_rfl), .inl (by kernel_rfl), .inl (by kernel_rfl), .inl (by kernel_rfl), .inl (by kernel_rfl), .inl (by kernel_rfl), trivial⟩, by kernel_rfl, ?_⟩
  refine At.mono (E' := [(2, str l)]) ⟨rfl, trivial⟩ ?_
  refine At.pick (H' := s1 :: H) [0] 2 rfl rfl ?_
  exact At.ret Tryz.func131 rfl rfl (⟨_, rfl, rfl⟩)
theorem bstr_ok {w0 : World} {base : Nat} {H : List Seg} {b : Nat} {p : Value} {x : Sl tyB 5} (h0 : x.l ≠ []) : SCalls Tryz.prog 131 [.pointer (some ⟨b, 0, none⟩)] w0 base (x.s :: [(b, .cells #[p, .slice x.A x.l.length x.C] 256 (0, 0))] :: H) (fun u H' => ∃ s', u = str x.l ∧ H' = s' :: H) := by
  obtain ⟨A, C, l, s, o⟩ := x
  have hl0 : l.length ≠ 0 := fun h => h0 (List.eq_nil_of_length_eq_zero h)
  have hle := o.le_cap
  cases A with
  | none =>
    obtain ⟨r, _, h⟩ := o
    rcases h with ⟨_, h, _⟩ | ⟨_, _, _, _, h, _⟩
    · exact absurd h h0
    · cases h
  | some a =>
    have hC : C ≠ 0 := by have := hle; omega
    exact bstring_ok o h0 hl0 hC
set_option maxHeartbeats 400000 in
theorem bwbyte_ok {w0 : World} {base : Nat} {H : List Seg} {b : Nat} {p : Value} (hp : bown b p) {x : Sl tyB 5} {c : UInt8} (hl : x.l.length + 1 ≤ 140737488355328) :
    SCalls Tryz.prog 128 [.pointer (some ⟨b, 0, none⟩), .int .u8 (c.toNat : Int)] w0 base (x.s :: [(b, .cells #[p, .slice x.A x.l.length x.C] 256 (0, 0))] :: H) (fun u H' => ∃ y : Sl tyB 5, y.l = x.l ++ [c] ∧ u = .nilIface ∧ H' = y.s :: [(b, .cells #[.pointer (some ⟨b, 0, none⟩), .slice y.A y.l.length y.C] 256 (0, 0))] :: H) := by
  refine SCalls.of_walk (n := 17) Tryz.func128 rfl rfl rfl fun cs => ?_
  refine At.seq ?_
  refine At.region ?_
  refine AtL.assign (.inl rfl) rfl rfl ?_
  refine AtL.done ?_
  refine At.seq ?_
  refine At.region ?_
  refine AtL.move (.inl rfl) rfl rfl ?_
  refine AtL.pick (H' := [(b, .cells #[p, .slice x.A x.l.length x.C] 256 (0, 0))] :: x.s :: H) [1, 0] 2 rfl rfl ?_
  refine AtL.call tf_body206 (.inl rfl) rfl rfl (bchk_ok hp) ?_
  rintro _ _ ⟨rfl, rfl⟩
  refine AtL.done ?_
  refine At.seq ?_
  refine At.region ?_
  refine AtL.move (.inl rfl) rfl rfl ?_
  refine AtL.move (.inl rfl) rfl rfl ?_
  refine AtL.nilCheck (.inl rfl) rfl rfl ?_
  refine AtL.fieldAddrB tf_fo256_1 (.inl rfl) rfl rfl rfl ?_
  refine AtL.load tf_flat22 (.inl rfl) rfl rfl (Cell.own 0 0 rfl rfl rfl) ?_
  refine AtL.move (.inl rfl) rfl rfl ?_
  refine AtL.buildSlice (cs := [.int .u8 (c.toNat : Int)]) Tryz.underlying22 tf_zero5 tf_sz5 rfl rfl (.inl rfl) rfl rfl rfl ?_
  intro b1
  refine AtL.own1 tyB (l := ([c] : List UInt8)) rfl rfl (by first | decide | simp) ?_
  intro s2 o3
  refine AtL.append (l := x.l) (news := [c]) 2 tf_el22 rfl x.own (o3.rd (i := 0) rfl) (by simp only [List.length_cons, List.length_nil]; omega) (.inl rfl) rfl rfl rfl ?_
  intro A4 C5 s6 o7
  refine AtL.nilCheck (.inl rfl) rfl rfl ?_
  refine AtL.fieldAddrB tf_fo256_1 (.inl rfl) rfl rfl rfl ?_
  refine AtL.store (H' := s2 :: [(b, .cells #[.pointer (some ⟨b, 0, none⟩), .slice A4 (x.l ++ [c]).length C5] 256 (0, 0))] :: s6 :: H) 1 0 tf_sz22 (.inl rfl) rfl rfl rfl rfl rfl rfl rfl rfl rfl ?_
  refine AtL.done ?_
  refine At.seq ?_
  refine At.region ?_
  refine AtL.assign (.inl rfl) rfl rfl ?_
  refine AtL.done ?_
  refine At.pick (H' := s6 :: [(b, .cells #[.pointer (some ⟨b, 0, none⟩), .slice A4 (x.l ++ [c]).length C5] 256 (0, 0))] :: H) [2, 1] 3 rfl rfl ?_
  exact At.ret Tryz.func128 rfl rfl (⟨⟨A4, C5, x.l ++ [c], s6, o7⟩, rfl, rfl, rfl⟩)
set_option maxHeartbeats 400000 in
theorem blen_ok {w0 : World} {base : Nat} {H : List Seg} {b : Nat} {p : Value} {x : Sl tyB 5} :
    SCalls Tryz.prog 130 [.pointer (some ⟨b, 0, none⟩)] w0 base (x.s :: [(b, .cells #[p, .slice x.A x.l.length x.C] 256 (0, 0))] :: H) (fun v H' => v = int (x.l.length : Int) ∧ H' = x.s :: [(b, .cells #[p, .slice x.A x.l.length x.C] 256 (0, 0))] :: H) := by
  refine SCalls.of_walk (n := 8) Tryz.func130 rfl rfl rfl fun cs => ?_
  refine At.seq ?_
  refine At.region ?_
  refine AtL.assign (.inl rfl) rfl rfl ?_
  refine AtL.done ?_
  refine At.seq ?_
  refine At.region ?_
  refine AtL.move (.inl rfl) rfl rfl ?_
  refine AtL.nilCheck (.inl rfl) rfl rfl ?_
  refine AtL.fieldAddrB tf_fo256_1 (.inl rfl) rfl rfl rfl ?_
  refine AtL.load tf_flat22 (.inl rfl) rfl rfl (Cell.own 1 0 rfl rfl rfl) ?_
  refine AtL.lenL Tryz.underlying22 (.inl rfl) rfl rfl ?_
  refine AtL.assign (.inl rfl) rfl rfl ?_
  refine AtL.done ?_
  exact At.ret Tryz.func130 rfl rfl (⟨rfl, rfl⟩)
end Go.Proofs.YtdncjmehhahidaaGreatDoor
namespace Go.Proofs.YtdncjmehhahidaaGreatDoor
open Go.RowKit (Below)
set_option linter.unusedVariables false
set_option linter.unusedSimpArgs false
noncomputable section
def cntN : Nat → Nat → Nat → Nat
  | 0, _, _ => 0
  | k + 1, n, c => match Nat.beq (Nat.mod n 256) c with
    | true => Nat.succ (cntN k (Nat.div n 256) c)
    | false => cntN k (Nat.div n 256) c
def idxN : Nat → Nat → Nat → Nat
  | 0, _, _ => 0
  | k + 1, n, c => match Nat.beq (Nat.mod n 256) c with
    | true => 0
    | false => Nat.succ (idxN k (Nat.div n 256) c)
def cntE (args : List LV) (nx : Nat) (h : LH) : Rs := match args with
  | [.str len n, .int .u8 (.ofNat c)] => match Nat.blt c 256 with
    | true => frN (fun i => .ok (.int .i64 (.ofNat i)) nx h) (cntN len n c)
    | false => .bad 442
  | _ => .bad 442
def idxE (args : List LV) (nx : Nat) (h : LH) : Rs := match args with
  | [.str len n, .int .u8 (.ofNat c)] => match Nat.blt c 256 with
    | true => frN (fun i => match Nat.beq i len with
      | true => .ok (.int .i64 (.negSucc 0)) nx h
      | false => .ok (.int .i64 (.ofNat i)) nx h) (idxN len n c)
    | false => .bad 443
  | _ => .bad 443
def strsR (t : Tr (List LV)) : Nat → Nat → Option (List (Nat × Nat))
  | 0, _ => some []
  | k + 1, i => match Tr.get [] t i with
    | [.str a b] => match strsR t k (Nat.succ i) with
      | some l => some ((a, b) :: l)
      | none => none
    | _ => none
def strsO (lo : LO) (o len : Nat) : Option (List (Nat × Nat)) := match lo with
  | .rows sz rl t => match Nat.beq sz 1 && Nat.ble (Nat.add o len) rl with
    | true => strsR t len o
    | false => none
  | _ => none
def strsE (h : LH) : LV → Option (List (Nat × Nat))
  | .nils => some []
  | .sl i o len cap => match Nat.ble len cap && Nat.ble cap 1000000 with
    | true => strsO (atB h i) o len
    | false => none
  | .slo i o len _ => strsO (atB h i) o len
  | _ => none
def catS (a n b m : Nat) (k : Nat → Nat → Rs) : Rs := frN (fun l => frN (fun x => k l x) (Nat.add n (Nat.mul (Nat.pow 256 a) m))) (Nat.add a b)
def joinN (sl sn : Nat) : List (Nat × Nat) → (Nat → Nat → Rs) → Rs
  | [], k => k 0 0
  | [p], k => k p.1 p.2
  | p :: q :: l, k => joinN sl sn (q :: l) fun b m => catS sl sn b m fun b m => catS p.1 p.2 b m k
def joinE (args : List LV) (nx : Nat) (h : LH) : Rs := match args with
  | [v, .str sl sn] => match strsE h v with
    | some l => joinN sl sn l fun a n => match Nat.ble a 1000000 && Nat.ble l.length 1000000 with
      | true => .ok (.str a n) nx h
      | false => .bad 444
    | none => .bad 444
  | _ => .bad 444
def nameN : List (Nat × Nat) → (Nat → Nat → Rs) → Rs
  | [], k => k 1 0
  | p :: l, k => match Nat.ble 1 p.1 && Nat.ble p.1 63 with
    | true => nameN l fun b m => catS p.1 p.2 b m fun b m => catS 1 p.1 b m k
    | false => .bad 445
def nameE (args : List LV) (nx : Nat) (h : LH) : Rs := match args with
  | [v] => match strsE h v with
    | some l => nameN l fun a n => match Nat.ble a 255 with
      | true => .ok (.tup [.str a n, .int .i64 (.ofNat 0)]) nx h
      | false => .bad 445
    | none => .bad 445
  | _ => .bad 445
end
theorem bn_cons (b : UInt8) (l : List UInt8) : Nat.mod (bytesNum (b :: l)) 256 = b.toNat ∧ Nat.div (bytesNum (b :: l)) 256 = bytesNum l := by
  have hb := b.toNat_lt
  rw [bytesNum]
  exact ⟨(by omega : (b.toNat + 256 * bytesNum l) % 256 = b.toNat), (by omega : (b.toNat + 256 * bytesNum l) / 256 = bytesNum l)⟩
theorem beq_u8 (b c : UInt8) : Nat.beq b.toNat c.toNat = (b == c) := by
  by_cases h : b = c
  · subst h; simp
  · have h2 : b.toNat ≠ c.toNat := fun e => h (UInt8.toNat_inj.1 e)
    rw [beq_no h2]; simp [h]
theorem cnt_eq (c : UInt8) : ∀ l : List UInt8, cntN l.length (bytesNum l) c.toNat = Lib.countByte l c
  | [] => rfl
  | b :: l => by
    rw [List.length_cons, cntN, (bn_cons b l).1, (bn_cons b l).2, beq_u8, cnt_eq c l]
    unfold Lib.countByte
    rw [List.count_cons]
    cases h : b == c <;> simp [h]
theorem idx_eq (c : UInt8) : ∀ l : List UInt8, (idxN l.length (bytesNum l) c.toNat = l.length ∧ Lib.indexByte l c = -1) ∨ (idxN l.length (bytesNum l) c.toNat < l.length ∧ Lib.indexByte l c = ((idxN l.length (bytesNum l) c.toNat : Nat) : Int))
  | [] => .inl ⟨rfl, rfl⟩
  | b :: l => by
    rw [List.length_cons, idxN, (bn_cons b l).1, (bn_cons b l).2, beq_u8, Lib.indexByte]
    cases h : b == c with
    | true => exact .inr ⟨Nat.succ_pos _, by simp⟩
    | false =>
      rcases idx_eq c l with ⟨h1, h2⟩ | ⟨h1, h2⟩
      · exact .inl ⟨by simp [h1], by simp [h2]⟩
      · refine .inr ⟨by simp only [Nat.succ_eq_add_one]; omega, ?_⟩
        have : ¬ Lib.indexByte l c = -1 := by omega
        simp [this, h2]
theorem two_vr {B : BB} {a b : LV} {us : List Value} (h : VRL B [a, b] us) : ∃ u v, us = [u, v] ∧ VR B a u ∧ VR B b v := by
  simp only [VRL] at h
  obtain ⟨u, m, rfl, h1, v, m', rfl, h2, rfl⟩ := h
  exact ⟨u, v, rfl, h1, h2⟩
theorem byte_nat {c : Nat} (h : c < 256) : ((c : Int).toNat.toUInt8).toNat = c := by
  simp [Nat.toUInt8, UInt8.toNat_ofNat, Nat.mod_eq_of_lt h]
section
variable {P : Program} {w0 : World} {base : Nat} {g : FuncId}
theorem cnt_pr (hr : ∀ (s : ByteArray) (c : Int) w, (callFunc g #[.string s, .int .u8 c]).run P w = .ok (.value (.int .i64 (Lib.countByte s.data.toList c.toNat.toUInt8))) w) : PrOk P w0 base g cntE := by
  intro G args nx h lv nx' h' B H us hq hu hn hH
  refine .inl fun w S => ?_
  unfold cntE at hq
  split at hq
  · rename_i len n c
    split at hq
    · rename_i hc
      rw [frN_eq] at hq
      cases hq
      obtain ⟨u, v, rfl, h1, h2⟩ := two_vr hu
      simp only [VR] at h1 h2
      obtain ⟨l, rfl, rfl, rfl⟩ := h1
      subst h2
      have e := cnt_eq (c : Int).toNat.toUInt8 l
      rw [byte_nat (blt_iff.1 hc)] at e
      exact ⟨_, w, H, hr _ _ w, S, B, List.prefix_refl _, hn, by simp only [VR]; rw [e]; rfl, hH⟩
    · cases hq
  · cases hq
theorem idx_pr (hr : ∀ (s : ByteArray) (c : Int) w, (callFunc g #[.string s, .int .u8 c]).run P w = .ok (.value (.int .i64 (Lib.indexByte s.data.toList c.toNat.toUInt8))) w) : PrOk P w0 base g idxE := by
  intro G args nx h lv nx' h' B H us hq hu hn hH
  refine .inl fun w S => ?_
  unfold idxE at hq
  split at hq
  · rename_i len n c
    split at hq
    · rename_i hc
      rw [frN_eq] at hq
      obtain ⟨u, v, rfl, h1, h2⟩ := two_vr hu
      simp only [VR] at h1 h2
      obtain ⟨l, rfl, rfl, rfl⟩ := h1
      subst h2
      have e := idx_eq (c : Int).toNat.toUInt8 l
      rw [byte_nat (blt_iff.1 hc)] at e
      split at hq
      · rename_i hl
        cases hq
        have hl := beq_iff.1 hl
        rcases e with ⟨e1, e2⟩ | ⟨e1, e2⟩
        · exact ⟨_, w, H, hr _ _ w, S, B, List.prefix_refl _, hn, by simp only [VR]; rw [show (str l) = .string ⟨⟨l⟩⟩ from rfl] at *; exact congrArg _ e2, hH⟩
        · omega
      · rename_i hl
        cases hq
        have hl : idxN l.length (bytesNum l) c ≠ l.length := fun e => by rw [e] at hl; simp at hl
        rcases e with ⟨e1, e2⟩ | ⟨e1, e2⟩
        · exact absurd e1 hl
        · exact ⟨_, w, H, hr _ _ w, S, B, List.prefix_refl _, hn, by simp only [VR]; exact congrArg _ e2, hH⟩
    · cases hq
  · cases hq
end
def mkS (s : List UInt8) : Nat × Nat := (s.length, bytesNum s)
theorem strsR_ok {B : BB} {t : Tr (List LV)} {cs : List Value} {off rl : Nat} (hrow : ∀ r, r < rl → VRL B (Tr.get [] t r) ((cs.drop (off + r * 1)).take 1)) : ∀ (k i : Nat) {l : List (Nat × Nat)}, strsR t k i = some l → i + k ≤ rl → ∃ ls : List (List UInt8), l = ls.map mkS ∧ ls.length = k ∧ ∀ j x, ls[j]? = some x → cs[off + i + j]? = some (str x)
  | 0, i, l, h, _ => by cases h; exact ⟨[], rfl, rfl, fun j x hx => by simp at hx⟩
  | k + 1, i, l, h, hle => by
    rw [strsR] at h
    split at h
    · rename_i a b hg
      split at h
      · rename_i l' h'
        cases h
        obtain ⟨ls, rfl, h2, h3⟩ := strsR_ok hrow k (Nat.succ i) h' (by simp only [Nat.succ_eq_add_one]; omega)
        have hv := hrow i (by omega)
        rw [hg, Nat.mul_one] at hv
        obtain ⟨u, hu, hv⟩ := one_vr hv
        simp only [VR] at hv
        obtain ⟨x, rfl, rfl, rfl⟩ := hv
        have hx : cs[off + i]? = some (str x) := by
          have h9 : ((cs.drop (off + i)).take 1)[0]? = some (str x) := by rw [hu]; rfl
          rw [List.getElem?_take, List.getElem?_drop] at h9
          simpa using h9
        refine ⟨x :: ls, rfl, by simp [h2], fun j y hy => ?_⟩
        cases j with
        | zero => simp at hy; subst hy; simpa using hx
        | succ j =>
          have := h3 j y (by simpa using hy)
          rw [show off + i + (j + 1) = off + Nat.succ i + j by simp only [Nat.succ_eq_add_one]; omega]
          exact this
      · cases h
    · cases h
section
variable {P : Program} {w0 : World} {base : Nat} {g : FuncId} {G : List (Nat × Obj)} {B : BB} {h : LH} {H : List Seg}
theorem strsO_ok (hr : HR G B h H) {i o len : Nat} {k : Bk} (hk : B[i]? = some k) {l : List (Nat × Nat)} (hq : strsO (atB h i) o len = some l) : ∃ ls : List (List UInt8), l = ls.map mkS ∧ ls.length = len ∧ ∀ w, Sep w0 base w H → ∀ j x, ls[j]? = some x → w.cell? ⟨k.b, k.off + o + j, none⟩ = some (str x) := by
  unfold strsO at hq
  split at hq
  · rename_i sz rl t hlo
    split at hq
    · rename_i hc
      rw [Bool.and_eq_true] at hc
      have hs := beq_iff.1 hc.1
      have hle : o + len ≤ rl := ble_iff.1 hc.2
      subst hs
      obtain ⟨k', j, obj, a1, a2, a3⟩ := hr.at_ i (by rw [hlo]; rfl)
      rw [hk] at a1; cases a1
      rw [hlo] at a3
      obtain ⟨cs, e, rfl, _, _, _, _, _, hrow⟩ := a3
      obtain ⟨ls, h1, h2, h3⟩ := strsR_ok hrow len o hq hle
      refine ⟨ls, h1, h2, fun w S j' x hx => ?_⟩
      rw [cell_of_row w _ _ _ _ _ (S.at_ a2 (j := 0) rfl).1, ← Array.getElem?_toList]
      exact h3 j' x hx
    · cases hq
  · cases hq
theorem strs_rd (hr : HR G B h H) {v : LV} {u : Value} (hv : VR B v u) {l : List (Nat × Nat)} (hq : strsE h v = some l) : ∃ (A : Option Addr) (C : Nat) (ls : List (List UInt8)), u = .slice A ls.length C ∧ l = ls.map mkS ∧ Rd tyS w0 base H A C ls := by
  have cells : ∀ (ls : List (List UInt8)) (j : Nat) (c : Value), (tyS.cells ls)[j]? = some c → ∃ x, ls[j]? = some x ∧ c = str x := by
    intro ls
    induction ls with
    | nil => intro j c hc; simp [Ty.cells] at hc
    | cons a r ih =>
      intro j c hc
      have e : tyS.cells (a :: r) = str a :: tyS.cells r := rfl
      rw [e] at hc
      cases j with
      | zero => simp at hc; exact ⟨a, rfl, hc.symm⟩
      | succ j => obtain ⟨x, h1, h2⟩ := ih j c (by simpa using hc); exact ⟨x, by simpa using h1, h2⟩
  unfold strsE at hq
  split at hq
  · cases hq
    simp only [VR] at hv
    subst hv
    exact ⟨none, 0, [], rfl, rfl, Rd.nil_⟩
  · rename_i i o len cap
    split at hq
    · rename_i hc
      rw [Bool.and_eq_true] at hc
      have c1 := ble_iff.1 hc.1
      have c2 := ble_iff.1 hc.2
      simp only [VR] at hv
      obtain ⟨k, hk, rfl⟩ := hv
      obtain ⟨ls, h1, h2, h3⟩ := strsO_ok (w0 := w0) (base := base) hr hk hq
      refine ⟨_, cap, ls, by rw [h2], h1, ⟨by omega, by omega, (fun h => by cases h), fun _ => ⟨_, _, rfl, fun w S j c hc => ?_⟩⟩⟩
      obtain ⟨x, x1, rfl⟩ := cells _ _ _ hc
      exact h3 w S j x x1
    · cases hq
  · rename_i i o len ad
    simp only [VR] at hv
    obtain ⟨k, c, A, hk, rfl, q1, q2, q3, q4, q5⟩ := hv
    obtain ⟨ls, h1, h2, h3⟩ := strsO_ok (w0 := w0) (base := base) hr hk hq
    refine ⟨_, c, ls, by rw [h2], h1, ⟨by omega, q5, (fun h => by cases h), fun hne => ?_⟩⟩
    have hpos : 0 < ls.length := List.length_pos_iff.2 hne
    refine ⟨_, _, congrArg some (q3 (by omega)), fun w S j c hc => ?_⟩
    obtain ⟨x, x1, rfl⟩ := cells _ _ _ hc
    exact h3 w S j x x1
  · cases hq
theorem catS_eq {a b : List UInt8} {k : Nat → Nat → Rs} : catS a.length (bytesNum a) b.length (bytesNum b) k = k (a ++ b).length (bytesNum (a ++ b)) := by
  unfold catS
  rw [frN_eq, frN_eq, List.length_append, bytesNum_app]
  congr 1
  rw [Nat.mul_comm (bytesNum b)]; rfl
theorem joinN_eq (sep : List UInt8) : ∀ (ls : List (List UInt8)) (k : Nat → Nat → Rs), joinN sep.length (bytesNum sep) (ls.map mkS) k = k (Lib.join ls sep).length (bytesNum (Lib.join ls sep))
  | [], k => rfl
  | [p], k => by rw [Lib.join_one]; rfl
  | p :: q :: l, k => by
    have e : Lib.join (p :: q :: l) sep = p ++ (sep ++ Lib.join (q :: l) sep) := by
      unfold Lib.join List.intercalate; simp [List.intersperse]
    rw [e]
    show joinN sep.length (bytesNum sep) ((q :: l).map mkS) _ = _
    rw [joinN_eq sep (q :: l)]
    show catS sep.length (bytesNum sep) (Lib.join (q :: l) sep).length (bytesNum (Lib.join (q :: l) sep)) (fun b m => catS p.length (bytesNum p) b m k) = _
    rw [catS_eq, catS_eq]
def nmP : List (List UInt8) → List UInt8
  | [] => [0]
  | s :: r => UInt8.ofNat s.length :: (s ++ nmP r)
theorem nameN_eq : ∀ (ls : List (List UInt8)) (k : Nat → Nat → Rs) {lv : LV} {nx : Nat} {h : LH}, nameN (ls.map mkS) k = .ok lv nx h → (∀ s ∈ ls, 1 ≤ s.length ∧ s.length ≤ 63) ∧ k (nmP ls).length (bytesNum (nmP ls)) = .ok lv nx h
  | [], k, lv, nx, h, hq => ⟨fun s hs => by simp at hs, hq⟩
  | p :: l, k, lv, nx, h, hq => by
    have hq : (match Nat.ble 1 p.length && Nat.ble p.length 63 with
      | true => nameN (l.map mkS) fun b m => catS p.length (bytesNum p) b m fun b m => catS 1 p.length b m k
      | false => .bad 445) = .ok lv nx h := hq
    split at hq
    · rename_i hc
      rw [Bool.and_eq_true] at hc
      have c1 := ble_iff.1 hc.1
      have c2 := ble_iff.1 hc.2
      obtain ⟨h1, h2⟩ := nameN_eq l _ hq
      refine ⟨fun s hs => ?_, ?_⟩
      · rcases List.mem_cons.1 hs with rfl | hs
        · exact ⟨c1, c2⟩
        · exact h1 s hs
      · rw [catS_eq] at h2
        have e : bytesNum [UInt8.ofNat p.length] = p.length := by
          simp only [bytesNum, UInt8.toNat_ofNat']
          omega
        have := catS_eq (a := [UInt8.ofNat p.length]) (b := p ++ nmP l) (k := k)
        rw [e] at this
        rw [show (1 : Nat) = [UInt8.ofNat p.length].length from rfl, this] at h2
        exact h2
    · cases hq
theorem join_pr (hb : Body P g) (hc : ∀ {H : List Seg} {A : Option Addr} {C : Nat} {ls : List (List UInt8)} {sep : List UInt8}, Rd tyS w0 base H A C ls → ls.length ≤ 1000000 → (Lib.join ls sep).length ≤ 1000000 → SCalls P g [.slice A ls.length C, str sep] w0 base H (fun v H' => v = str (Lib.join ls sep) ∧ H' = H)) : PrOk P w0 base g joinE := by
  intro G args nx h lv nx' h' B H us hq hu hn hH
  unfold joinE at hq
  split at hq
  · rename_i v sl sn
    split at hq
    · rename_i l hl
      obtain ⟨u, s, rfl, h1, h2⟩ := two_vr hu
      simp only [VR] at h2
      obtain ⟨sep, rfl, rfl, rfl⟩ := h2
      obtain ⟨A, C, ls, rfl, rfl, hrd⟩ := strs_rd (w0 := w0) (base := base) hH h1 hl
      rw [joinN_eq] at hq
      split at hq
      · rename_i hle
        rw [Bool.and_eq_true, List.length_map] at hle
        cases hq
        refine .inr ⟨hb, (hc hrd (ble_iff.1 hle.2) (ble_iff.1 hle.1)).mono ?_⟩
        rintro v H' ⟨rfl, rfl⟩
        exact ⟨B, List.prefix_refl _, hn, by simp only [VR]; exact ⟨_, rfl, rfl, rfl⟩, hH⟩
      · cases hq
    · cases hq
  · cases hq
theorem name_pr (hb : Body P g) (hc : ∀ {H : List Seg} {A : Option Addr} {C : Nat} {ls : List (List UInt8)}, Rd tyS w0 base H A C ls → (∀ s ∈ ls, 1 ≤ s.length ∧ s.length ≤ 63) → (nmP ls).length ≤ 255 → SCalls P g [.slice A ls.length C] w0 base H (fun v H' => v = .tuple #[str (nmP ls), int 0] ∧ H' = H)) : PrOk P w0 base g nameE := by
  intro G args nx h lv nx' h' B H us hq hu hn hH
  unfold nameE at hq
  split at hq
  · rename_i v
    split at hq
    · rename_i l hl
      obtain ⟨u, rfl, h1⟩ := one_vr hu
      obtain ⟨A, C, ls, rfl, rfl, hrd⟩ := strs_rd (w0 := w0) (base := base) hH h1 hl
      obtain ⟨q1, q2⟩ := nameN_eq ls _ hq
      split at q2
      · rename_i hle
        cases q2
        refine .inr ⟨hb, (hc hrd q1 (ble_iff.1 hle)).mono ?_⟩
        rintro v H' ⟨rfl, rfl⟩
        refine ⟨B, List.prefix_refl _, hn, ?_, hH⟩
        simp only [VR]
        refine ⟨_, rfl, VRL.cons_ ?_ (VRL.cons_ ?_ VRL.nil_)⟩
        · simp only [VR]; exact ⟨_, rfl, rfl, rfl⟩
        · simp only [VR]; rfl
      · cases q2
    · cases hq
  · cases hq
end
end Go.Proofs.YtdncjmehhahidaaGreatDoor
namespace Go.Proofs.YtdncjmehhahidaaGreatDoor
set_option linter.unusedVariables false
set_option linter.unusedSimpArgs false
set_option maxRecDepth 100000
def nmF : List (List UInt8) → List UInt8
  | [] => []
  | s :: r => UInt8.ofNat s.length :: (s ++ nmF r)
theorem nmP_F : ∀ ls : List (List UInt8), nmP ls = nmF ls ++ [0]
  | [] => rfl
  | s :: r => by rw [nmP, nmF, nmP_F r]; simp
theorem nmF_snoc : ∀ (ls : List (List UInt8)) (s : List UInt8), nmF (ls ++ [s]) = nmF ls ++ [UInt8.ofNat s.length] ++ s
  | [], s => by simp [nmF]
  | a :: r, s => by rw [List.cons_append, nmF, nmF_snoc r s, nmF]; simp
theorem nmF_take (ls : List (List UInt8)) (k : Nat) : (nmF (ls.take k)).length ≤ (nmF ls).length := by
  have h : ∀ (a b : List (List UInt8)), (nmF a).length ≤ (nmF (a ++ b)).length := by
    intro a
    induction a with
    | nil => intro b; simp [nmF]
    | cons x r ih => intro b; have := ih b; simp only [List.cons_append, nmF, List.length_cons, List.length_append]; omega
  have := h (ls.take k) (ls.drop k)
  rwa [List.take_append_drop] at this
theorem nmF_step {ls : List (List UInt8)} {k : Nat} (hk : k < ls.length) : nmF (ls.take (k + 1)) = nmF (ls.take k) ++ [UInt8.ofNat (ls.getD k []).length] ++ ls.getD k [] := by
  rw [List.take_succ_eq_append_getElem hk, nmF_snoc]
  simp [List.getD, hk]
set_option maxHeartbeats 400000 in
theorem njoin_ok {w0 : World} {base : Nat} {H : List Seg} {A : Option Addr} {C : Nat} {l : List (List UInt8)} (h : Rd tyS w0 base H A C l) (hls : ∀ s ∈ l, 1 ≤ s.length ∧ s.length ≤ 63) (hnm : (nmP l).length ≤ 255) :
    SCalls Tryz.prog 63 [.slice A l.length C] w0 base (H) (fun v H' => v = .tuple #[str (nmP l), int 0] ∧ H' = H) := by
  have hle0 := h.le
  have hcap0 := h.cap
  have hnl := congrArg List.length (nmP_F l); rw [List.length_append] at hnl
  refine SCalls.of_walk (n := 32) Tryz.func63 rfl rfl rfl fun cs => ?_
  refine At.seq ?_
  refine At.region ?_
  refine AtL.assign (.inl rfl) rfl rfl ?_
  refine AtL.assign (.inl rfl) rfl rfl ?_
  refine AtL.done ?_
  refine At.seq ?_
  refine At.region ?_
  refine AtL.alloc tf_zero256 (cs := #[.pointer none, .slice none 0 0]) rfl (.inl rfl) rfl ?_
  intro b1
  refine AtL.done ?_
  refine At.seq ?_
  refine At.seq ?_
  refine At.region ?_
  refine AtL.move (.inl rfl) rfl rfl ?_
  refine AtL.lenL Tryz.underlying67 (.inl rfl) rfl rfl ?_
  refine AtL.move (.inl rfl) rfl rfl ?_
  refine AtL.done ?_
  refine At.block ?_
  refine At.nil ?_
  refine At.loop3 (fun (k : Nat) (x : Sl tyB 5) (q : Value) => [(4, .pointer (some ⟨b1, 0, none⟩)), (7, .slice A l.length C), (8, .int .i64 (l.length : Int)), (9, .int .i64 (k : Int))]) (fun (k : Nat) (x : Sl tyB 5) (q : Value) => x.s :: [(b1, .cells #[q, .slice x.A x.l.length x.C] 256 (0, 0))] :: H) (fun (k : Nat) (x : Sl tyB 5) (q : Value) => k ≤ l.length ∧ x.l = nmF (l.take k) ∧ bown b1 q) (fun (k : Nat) (x : Sl tyB 5) (q : Value) => l.length - k) 0 Sl.nil (.pointer none) (⟨Nat.zero_le _, rfl, .inl rfl⟩) ⟨rfl, rfl, rfl, rfl, trivial⟩ rfl ?_
  rintro k x q ⟨hk, hx, hq⟩ ihL1
  have hxl := congrArg List.length hx
  have htk := nmF_take l k
  have hq2 : bown b1 (.pointer (some ⟨b1, 0, none⟩)) := .inr rfl
  refine At.seq ?_
  refine At.region ?_
  refine AtL.lss (.inl rfl) rfl rfl rfl ?_
  refine AtL.done ?_
  refine At.seq ?_
  refine At.cond rfl ?_ ?_
  · intro hc1
    have hc1 : (k : Int) < (l.length : Int) := of_decide_eq_true hc1
    have hs := hls _ (getD_mem (l := l) (i := k) (d := []) (by omega))
    refine At.skip ?_
    refine At.seq ?_
    refine At.block ?_
    refine At.seq ?_
    refine At.region ?_
    refine AtL.indexL k (Rd.skip 2 h) Tryz.underlying67 tf_sz9 (.inl rfl) rfl rfl rfl rfl (by omega) ?_
    refine AtL.load (v := str (l.getD k [])) tf_flat9 (.inl rfl) rfl rfl (Rd.cell0 (Rd.skip 2 h) (getD_some [] (by omega)) rfl) ?_
    refine AtL.assign (.inl rfl) rfl rfl ?_
    refine AtL.done ?_
    refine At.seq ?_
    refine At.block ?_
    refine At.seq ?_
    refine At.region ?_
    refine AtL.move (.inl rfl) rfl rfl ?_
    refine AtL.lenS (l := (l.getD k [])) Tryz.underlying9 (.inl rfl) rfl rfl ?_
    refine AtL.eqi (.inl rfl) rfl rfl rfl ?_
    refine AtL.assign (.inl rfl) rfl rfl ?_
    refine AtL.done ?_
    refine At.condIs false rfl (decide_eq_false (by omega)) ?_
    refine At.seq ?_
    refine At.region ?_
    refine AtL.move (.inl rfl) rfl rfl ?_
    refine AtL.lenS (l := (l.getD k [])) Tryz.underlying9 (.inl rfl) rfl rfl ?_
    refine AtL.gtr (.inl rfl) rfl rfl rfl ?_
    refine AtL.assign (.inl rfl) rfl rfl ?_
    refine AtL.done ?_
    refine At.condIs false rfl (decide_eq_false (by omega)) ?_
    refine At.skip ?_
    refine At.inBlock ?_
    refine At.seq ?_
    refine At.region ?_
    refine AtL.move (.inl rfl) rfl rfl ?_
    refine AtL.lenS (l := (l.getD k [])) Tryz.underlying9 (.inl rfl) rfl rfl ?_
    refine AtL.convInt (z := ((UInt8.ofInt ((l.getD k []).length : Int)).toNat : Int)) Tryz.underlying3 Tryz.underlying5 (.inl rfl) rfl rfl (u8_conv _) ?_
    refine AtL.call tf_body128 (.inl rfl) rfl rfl (bwbyte_ok hq (x := x) (c := (UInt8.ofInt ((l.getD k []).length : Int))) (by first | omega | (dsimp only; simp only [List.length_append, List.length_cons, List.length_nil]; omega))) ?_
    rintro _ _ ⟨⟨A2, C3, l4, s5, o6⟩, hx7, rfl, rfl⟩
    obtain rfl : x.l ++ [(UInt8.ofInt ((l.getD k []).length : Int))] = l4 := hx7.symm
    refine AtL.done ?_
    refine At.region ?_
    refine AtL.move (.inl rfl) rfl rfl ?_
    refine AtL.call tf_body129 (.inl rfl) rfl rfl (bwrite_ok (.inr rfl) (x := ⟨A2, C3, x.l ++ [(UInt8.ofInt ((l.getD k []).length : Int))], s5, o6⟩) (v := (l.getD k [])) (by first | omega | (dsimp only; simp only [List.length_append, List.length_cons, List.length_nil]; omega))) ?_
    rintro _ _ ⟨⟨A8, C9, l10, s11, o12⟩, hx13, rfl, rfl⟩
    obtain rfl : (x.l ++ [(UInt8.ofInt ((l.getD k []).length : Int))]) ++ (l.getD k []) = l10 := hx13.symm
    refine AtL.done ?_
    refine At.inBlock ?_
    refine At.region ?_
    refine AtL.add (z := (k : Int) + 1) (.inl rfl) rfl rfl rfl (w64 (by omega) (by omega)) ?_
    refine AtL.move (.inl rfl) rfl rfl ?_
    refine AtL.done ?_
    refine ihL1 (k + 1) (⟨A8, C9, (x.l ++ [(UInt8.ofInt ((l.getD k []).length : Int))]) ++ (l.getD k []), s11, o12⟩) (.pointer (some ⟨b1, 0, none⟩)) (⟨by omega, by dsimp only; rw [nmF_step (by omega), ← hx, ofInt_nat], hq2⟩) (by omega) _ ?_
    exact ⟨rfl, rfl, rfl, (by first | rfl | exact slLen (by simp []) | exact intEq (by omega) | exact intEq (by simp []) | exact slLen (by simp []; omega)), trivial⟩
  · intro hc1
    have hc1 : ¬ ((k : Int) < (l.length : Int)) := of_decide_eq_false hc1
    refine At.exit rfl ?_
    refine At.seq ?_
    refine At.region ?_
    refine AtL.call tf_body129 (.inl rfl) rfl rfl (bwrite_ok hq (x := x) (v := [0]) (by first | omega | (dsimp only; simp only [List.length_append, List.length_cons, List.length_nil]; omega))) ?_
    rintro _ _ ⟨⟨A14, C15, l16, s17, o18⟩, hx19, rfl, rfl⟩
    obtain rfl : x.l ++ [0] = l16 := hx19.symm
    refine AtL.done ?_
    refine At.seq ?_
    refine At.seq ?_
    refine At.region ?_
    refine AtL.call tf_body130 (.inl rfl) rfl rfl (blen_ok (x := ⟨A14, C15, x.l ++ [0], s17, o18⟩)) ?_
    rintro _ _ ⟨rfl, rfl⟩
    refine AtL.gtr (.inl rfl) rfl rfl rfl ?_
    refine AtL.done ?_
    refine At.condIs false rfl (decide_eq_false (by rw [List.take_of_length_le (by omega)] at hxl; dsimp only; simp only [List.length_append, List.length_cons, List.length_nil] at hnl ⊢; omega)) ?_
    refine At.skip ?_
    refine At.seq ?_
    refine At.region ?_
    refine AtL.call tf_body131 (.inl rfl) rfl rfl (bstr_ok (x := ⟨A14, C15, x.l ++ [0], s17, o18⟩) (by simp)) ?_
    rintro _ _ ⟨s20, rfl, rfl⟩
    refine AtL.assign (.inl rfl) rfl rfl ?_
    refine AtL.assign (.inl rfl) rfl rfl ?_
    refine AtL.done ?_
    refine At.pick (H' := H) [] 1 rfl rfl ?_
    exact At.ret Tryz.func63 rfl rfl (⟨congrArg (fun z => Value.tuple #[str z, int 0]) (show x.l ++ [0] = nmP l by rw [nmP_F, hx, List.take_of_length_le (by omega)]), rfl⟩)
end Go.Proofs.YtdncjmehhahidaaGreatDoor
namespace Go.Proofs
open Go.Shelf
def Tryz.lays156_ren : Go.Shelf.Ren := ⟨fun | 156 => 267 | 165 => 366 | 166 => 129 | 169 => 131 | 240 => 206 | 241 => 429 | 276 => 278 | 277 => 468 | n => n, fun | 31 => 67 | 9 => 9 | 3 => 3 | 4 => 4 | 0 => 0 | 20 => 20 | 72 => 256 | 76 => 260 | 70 => 254 | 37 => 22 | 75 => 258 | 127 => 373 | 164 => 470 | 5 => 5 | 80 => 94 | n => n, fun | n => n⟩
theorem Tryz.lays156 : Go.Proofs.Lays.n156 Tryz.prog Tryz.lays156_ren := {
  mixed := by kernel_rfl
  f156 := Tryz.func267.trans (congrArg some (by kernel_rfl))
  f165 := Tryz.func366.trans (congrArg some (by kernel_rfl))
  f166 := Tryz.func129.trans (congrArg some (by kernel_rfl))
  f169 := Tryz.func131.trans (congrArg some (by kernel_rfl))
  f240 := Tryz.func206.trans (congrArg some (by kernel_rfl))
  f241 := Tryz.func429.trans (congrArg some (by kernel_rfl))
  f276 := Tryz.func278.trans (congrArg some (by kernel_rfl))
  f277 := Tryz.func468.trans (congrArg some (by kernel_rfl))
  t0 := Tryz.underlying0
  a0 := Tryz.isAgg0
  z0 := Tryz.sizeOf0
  v0 := Tryz.zeroValue0
  t3 := Tryz.underlying3
  a3 := Tryz.isAgg3
  z3 := Tryz.sizeOf3
  v3 := Tryz.zeroValue3
  t4 := Tryz.underlying4
  a4 := Tryz.isAgg4
  z4 := Tryz.sizeOf4
  v4 := Tryz.zeroValue4
  t9 := Tryz.underlying9
  a9 := Tryz.isAgg9
  z9 := Tryz.sizeOf9
  v9 := Tryz.zeroValue9
  t20 := Tryz.underlying20
  a20 := Tryz.isAgg20
  z20 := Tryz.sizeOf20
  v20 := Tryz.zeroValue20
  t31 := Tryz.underlying67
  a31 := Tryz.isAgg67
  z31 := Tryz.sizeOf67
  v31 := Tryz.zeroValue67
  t37 := Tryz.underlying22
  a37 := Tryz.isAgg22
  z37 := Tryz.sizeOf22
  v37 := Tryz.zeroValue22
  t70 := Tryz.underlying254
  a70 := Tryz.isAgg254
  z70 := Tryz.sizeOf254
  v70 := Tryz.zeroValue254
  t72 := Tryz.underlying256
  a72 := Tryz.isAgg256
  z72 := Tryz.sizeOf256
  v72 := Tryz.zeroValue256
  t75 := Tryz.underlying258
  a75 := Tryz.isAgg258
  z75 := Tryz.sizeOf258
  v75 := Tryz.zeroValue258
  t76 := Tryz.underlying260
  a76 := Tryz.isAgg260
  z76 := Tryz.sizeOf260
  v76 := Tryz.zeroValue260
  t127 := Tryz.underlying373
  a127 := Tryz.isAgg373
  z127 := Tryz.sizeOf373
  v127 := Tryz.zeroValue373
  t164 := Tryz.underlying470
  a164 := Tryz.isAgg470
  z164 := Tryz.sizeOf470
  v164 := Tryz.zeroValue470 }
theorem Tryz.Builder_Extra_156 : Builder.Extra Tryz.prog Tryz.lays156_ren := {
  sizeBuilder := by kernel_rfl
  liesBuilder := by kernel_rfl
  t5 := Tryz.underlying5
  a5 := Tryz.isAgg5
  z5 := Tryz.sizeOf5
  v5 := Tryz.zeroValue5
  infoByte := by kernel_rfl
  cellsByte := by kernel_rfl
  sizeByte := by kernel_rfl
  neB5 := by decide }
open Go.RowKit in
theorem Tryz.strings_Join_none (a : Option Addr) (c : Nat) (sep : ByteArray) (w : World) :
    Calls Tryz.prog 267 #[.slice a 0 c, .string sep] w fun e w' => e = .returned (.string ⟨#[]⟩) ∧ w' = w := Any.strings_Join_none Tryz.lays156 Tryz.Builder_Extra_156 a c sep w
open Go.RowKit in
theorem Tryz.strings_Join (bk o c : Nat) (xs : List ByteArray) (sep : ByteArray) (w : World) (hcells : ∀ (j : Nat) x, xs[j]? = some x → w.cell? ⟨bk, o + j, none⟩ = some (.string x)) (hbk : bk < w.heap.size) (hN : xs.length ≤ 140737488355328) (hcap : xs.length ≤ c) (hlen : (Lib.join (xs.map (·.data.toList)) sep.data.toList).length ≤ 140737488355328) :
    Calls Tryz.prog 267 #[.slice (some ⟨bk, o, none⟩) xs.length c, .string sep] w fun e w' => e = .returned (.string ⟨(Lib.join (xs.map (·.data.toList)) sep.data.toList).toArray⟩) ∧ Below w.heap.size w w' := Any.strings_Join Tryz.lays156 Tryz.Builder_Extra_156 bk o c xs sep w hcells hbk hN hcap hlen
end Go.Proofs
namespace Go.Proofs.YtdncjmehhahidaaGreatDoor
set_option linter.unusedVariables false
set_option linter.unusedSimpArgs false
set_option maxRecDepth 100000
structure Tab10 (w0 : World) (base : Nat) : Prop where
  lt : 6 < base
  var : Lib.TabIs Tryz.prog w0 "internal/strconv.uint64pow10" .u64 Lib.pow10Tab
theorem Tab10.below {w0 : World} {base : Nat} {w : World} (T : Tab10 w0 base) (B : Go.RowKit.Below base w0 w) : Lib.TabIs Tryz.prog w "internal/strconv.uint64pow10" .u64 Lib.pow10Tab := by
  have h := T.var
  have hg : Tryz.prog.globalNamed "internal/strconv.uint64pow10" = some 6 := by kernel_rfl
  have hb := B.block _ T.lt
  unfold Lib.TabIs World.var? at h ⊢
  rw [hg] at h ⊢
  simp only [Option.bind_some] at h ⊢
  rw [hb]; exact h
theorem Tab10.at {w0 : World} {base : Nat} {w : World} {H : List Seg} (T : Tab10 w0 base) (S : Sep w0 base w H) : Lib.TabIs Tryz.prog w "internal/strconv.uint64pow10" .u64 Lib.pow10Tab := T.below S.below
theorem Tab10.cell {w0 : World} {base : Nat} {w : World} (T : Tab10 w0 base) (B : Go.RowKit.Below base w0 w) {o : Nat} (ho : o < 20) : w.cell? ⟨6, o, none⟩ = some (.int .u64 ((10 ^ o : Nat) : Int)) := by
  have := Lib.TabIs.cell (T.below B) (g := 6) (by kernel_rfl) o (by rw [Lib.pow10Tab_length]; exact ho)
  rwa [Lib.pow10Tab_at o ho] at this
theorem sjoin_ok {w0 : World} {base : Nat} {H : List Seg} {D : Option Addr} {C : Nat} {ls : List (List UInt8)} {sep : List UInt8} (h : Rd tyS w0 base H D C ls) (hn : ls.length ≤ 1000000) (hl : (Lib.join ls sep).length ≤ 1000000) :
    SCalls Tryz.prog 267 [.slice D ls.length C, str sep] w0 base H (fun v H' => v = str (Lib.join ls sep) ∧ H' = H) := by
  have hle := h.le
  refine SCalls.of_below fun w S => ?_
  cases ls with
  | nil => exact (Tryz.strings_Join_none D C ⟨⟨sep⟩⟩ w).mono fun e w' ⟨he, hw⟩ => ⟨he, hw ▸ Go.RowKit.Below.refl _ _⟩
  | cons x r =>
    obtain ⟨b, off, rfl, hc⟩ := h.cells (by simp)
    have key : ∀ (ls : List (List UInt8)) (j : Nat) (s : List UInt8), ls[j]? = some s → (tyS.cells ls)[j]? = some (str s) := by
      intro ls
      induction ls with
      | nil => intro j s hs; simp at hs
      | cons a r ih =>
        intro j s hs
        have e : tyS.cells (a :: r) = str a :: tyS.cells r := rfl
        rw [e]
        cases j with
        | zero => simp at hs; subst hs; rfl
        | succ j => simpa using ih j s (by simpa using hs)
    have c0 := hc w S 0 _ (key _ 0 x rfl)
    have hb : b < w.heap.size := by
      refine Classical.byContradiction fun hb => ?_
      have : w.heap[b]? = none := Array.getElem?_eq_none (by omega)
      simp [World.cell?, this] at c0
    have hmap : ∀ r : List (List UInt8), (r.map fun s => (⟨⟨s⟩⟩ : ByteArray)).map (·.data.toList) = r := fun r => by
      induction r with
      | nil => rfl
      | cons a r ih => rw [List.map_cons, List.map_cons, ih]
    have := Tryz.strings_Join b off C ((x :: r).map fun s => (⟨⟨s⟩⟩ : ByteArray)) ⟨⟨sep⟩⟩ w (fun j y hy => by
      rw [List.getElem?_map] at hy
      cases hq : (x :: r)[j]? with
      | none => rw [hq] at hy; cases hy
      | some s => rw [hq] at hy; cases hy; exact hc w S j _ (key _ j s hq)) hb (by rw [List.length_map]; omega) (by rw [List.length_map]; exact hle) (by rw [hmap]; show (Lib.join (x :: r) sep).length ≤ _; omega)
    rw [hmap, List.length_map] at this
    exact this
end Go.Proofs.YtdncjmehhahidaaGreatDoor
