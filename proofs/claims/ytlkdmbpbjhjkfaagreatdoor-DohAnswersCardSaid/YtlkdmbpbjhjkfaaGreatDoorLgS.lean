/- A logic for walks: ranges over strings, runes as strings, functions without a body, tables of the program's own. -/
import Derived.Test.YtlkdmbpbjhjkfaaGreatDoorLgQ
import Derived.Lib.DecodeN
namespace Go.Proofs.YtlkdmbpbjhjkfaaGreatDoor
open Go.RowKit (Below)
set_option linter.unusedVariables false
set_option linter.unusedSimpArgs false
section
variable {X : Pt} {k : List Item} {E : Env} {ds : List Deferred} {H : List Seg} {ops : Array Oper} {os : List Oper}
  {d : Nat} {ty : TypeId} {pos : String} {after : Array Edge} {g : Option (Nat × Bool)}
theorem Do.rangeS {t : TypeId} {x : Operand} {l : List UInt8} (hu : X.P.underlying t = some .string) (hx : ev E x = some (str l)) : Does X E H (.range t x) (fun v H' => ∃ b, v = .pointer (some ⟨b, 0, none⟩) ∧ H' = [(b, .stringIter ⟨⟨l⟩⟩ 0)] :: H) :=
  Does.core rfl fun dst ty pos after g ρ w hρ S => ⟨.pointer (some ⟨w.heap.size, 0, none⟩), w.alloc (.stringIter ⟨⟨l⟩⟩ 0), _, by
    simp only [execOp, hρ _ _ hx, Instr.range, str, Sem.run_bind, run_underlying hu, Result.andThen_ok, Sem.run_pure, run_newObj_alloc], S.alloc _, _, rfl, rfl⟩
theorem AtL.rangeS {t : TypeId} {x : Operand} {l : List UInt8} (hu : X.P.underlying t = some .string) (hg : Wd X ops E g) (hd : Nat.blt d X.n = true) (hx : ev E x = some (str l)) (hk : ∀ b, AtL X ops os k ((d, .pointer (some ⟨b, 0, none⟩)) :: E) ds ([(b, .stringIter ⟨⟨l⟩⟩ 0)] :: H)) :
    AtL X ops (⟨some d, .range t x, ty, pos, after, g⟩ :: os) k E ds H := AtL.of (Do.rangeS hu hx) hg hd fun _ _ ⟨b, hv, hH⟩ => by subst hv; subst hH; exact hk b
theorem getObj_at {P : Program} {w : World} {b : Nat} {o : Obj} (h : w.heap[b]? = some o) (hc : isCellsO o = false) : (getObj b).run P w = .ok o w := by
  cases o <;> first | (cases hc; done) | simp [getObj, Sem.run, h]
theorem Do.nextS {x : Operand} {l : List UInt8} {b p i j c n : Nat} {s : Seg} {H' : List Seg} (hx : ev E x = some (.pointer (some ⟨b, 0, none⟩))) (hi : H[i]? = some s) (hj : s[j]? = some (b, .stringIter ⟨⟨l⟩⟩ p)) (hp : Nat.blt p l.length = true)
    (hc : Utf8.decode ⟨⟨l⟩⟩ p = (c, n)) (hH : H.set i (s.set j (b, .stringIter ⟨⟨l⟩⟩ (p + n))) = H') : Does X E H (.next x true) (Is (.tuple #[.bool true, int (p : Int), .int .i32 (c : Int)]) H') :=
  Does.core rfl fun dst ty pos after g ρ w hρ S => by
    have hb := (S.at_ hi hj).1
    have hp' : p < (ByteArray.mk ⟨l⟩).size := blt_lt hp
    refine ⟨_, { w with heap := w.heap.setIfInBounds b (.stringIter ⟨⟨l⟩⟩ (p + n)) }, H', ?_, hH ▸ S.setObj hi hj _, rfl, rfl⟩
    simp only [execOp, hρ _ _ hx, Instr.next, Sem.run_bind, getObj_at hb rfl, Result.andThen_ok, if_pos hp', hc]
    rw [setObj_run hb rfl]
    rfl
theorem AtL.nextS {x : Operand} {l : List UInt8} {b p c n : Nat} {s : Seg} {H' : List Seg} (i j : Nat) (hg : Wd X ops E g) (hd : Nat.blt d X.n = true) (hx : ev E x = some (.pointer (some ⟨b, 0, none⟩))) (hi : H[i]? = some s) (hj : s[j]? = some (b, .stringIter ⟨⟨l⟩⟩ p)) (hp : Nat.blt p l.length = true)
    (hc : Utf8.decode ⟨⟨l⟩⟩ p = (c, n)) (hH : H.set i (s.set j (b, .stringIter ⟨⟨l⟩⟩ (p + n))) = H') (hk : AtL X ops os k ((d, .tuple #[.bool true, int (p : Int), .int .i32 (c : Int)]) :: E) ds H') :
    AtL X ops (⟨some d, .next x true, ty, pos, after, g⟩ :: os) k E ds H := AtL.of (Do.nextS hx hi hj hp hc hH) hg hd fun _ _ ⟨hv, hH⟩ => by subst hv; subst hH; exact hk
theorem Do.nextOver {x : Operand} {l : List UInt8} {b p i j : Nat} {s : Seg} (hx : ev E x = some (.pointer (some ⟨b, 0, none⟩))) (hi : H[i]? = some s) (hj : s[j]? = some (b, .stringIter ⟨⟨l⟩⟩ p)) (hp : Nat.ble l.length p = true) :
    Does X E H (.next x true) (Is (.tuple #[.bool false]) H) :=
  Does.core rfl fun dst ty pos after g ρ w hρ S => by
    have hb := (S.at_ hi hj).1
    have hp' : ¬ p < (ByteArray.mk ⟨l⟩).size := by have := Nat.le_of_ble_eq_true hp; show ¬ p < l.length; omega
    refine ⟨_, w, H, ?_, S, rfl, rfl⟩
    simp only [execOp, hρ _ _ hx, Instr.next, Sem.run_bind, getObj_at hb rfl, Result.andThen_ok, if_neg hp', Sem.run_pure]
theorem AtL.nextOver {x : Operand} {l : List UInt8} {b p : Nat} {s : Seg} (i j : Nat) (hg : Wd X ops E g) (hd : Nat.blt d X.n = true) (hx : ev E x = some (.pointer (some ⟨b, 0, none⟩))) (hi : H[i]? = some s) (hj : s[j]? = some (b, .stringIter ⟨⟨l⟩⟩ p)) (hp : Nat.ble l.length p = true)
    (hk : AtL X ops os k ((d, .tuple #[.bool false]) :: E) ds H) : AtL X ops (⟨some d, .next x true, ty, pos, after, g⟩ :: os) k E ds H := AtL.ofIs (Do.nextOver hx hi hj hp) hg hd hk
/-- A rune's bytes. -/
def encL (r : Int) : List UInt8 := (Utf8.encode r).data.toList
theorem enc_no (r : Int) : encL r ≠ [13, 10] := by
  unfold encL Utf8.encode
  simp only []
  generalize (if Utf8.valid r then r.toNat else Utf8.runeError) = c
  split
  · intro h; simpa using congrArg List.length h
  · split
    · rename_i h1 h2
      intro h
      simp only [List.cons.injEq] at h
      have := congrArg UInt8.toNat h.1
      rw [UInt8.toNat_ofNat'] at this
      have h3 : (192 + c / 64) % 2 ^ 8 = 192 + c / 64 := Nat.mod_eq_of_lt (by omega)
      rw [h3] at this
      have h4 : (13 : UInt8).toNat = 13 := rfl
      omega
    · split <;> (intro h; simpa using congrArg List.length h)
theorem enc_long {r : Int} (h : 2048 ≤ r) : 3 ≤ (encL r).length ∧ (encL r).length ≤ 4 := by
  unfold encL Utf8.encode
  simp only []
  have hc : 2048 ≤ (if Utf8.valid r then r.toNat else Utf8.runeError) := by
    split
    · omega
    · decide
  revert hc
  generalize (if Utf8.valid r then r.toNat else Utf8.runeError) = c
  intro hc
  rw [if_neg (by omega), if_neg (by omega)]
  split <;> simp
theorem enc3 {r : Int} (h : 2048 ≤ r) (h2 : r ≤ 65535) : (encL r).length = 3 := by
  unfold encL Utf8.encode
  simp only []
  have hc : 2048 ≤ (if Utf8.valid r then r.toNat else Utf8.runeError) ∧ (if Utf8.valid r then r.toNat else Utf8.runeError) < 65536 := by
    split
    · omega
    · decide
  revert hc
  generalize (if Utf8.valid r then r.toNat else Utf8.runeError) = c
  intro hc
  rw [if_neg (by omega), if_neg (by omega), if_pos (by omega)]
  rfl
theorem Do.convRune {src dst : TypeId} {x : Operand} {kk : IntKind} {r : Int} (h1 : X.P.underlying src = some (.int kk)) (h2 : X.P.underlying dst = some .string) (hx : ev E x = some (.int kk r)) : Does X E H (.convert src dst x) (Is (str (encL r)) H) :=
  Does.pureOp rfl fun d ty pos after g ρ w hρ => by
    have e : Value.string (Utf8.encode r) = str (encL r) := rfl
    simp only [execOp, hρ _ _ hx, convert, Sem.run_bind, run_underlying h1, run_underlying h2, Result.andThen_ok]
    simp [Conv.intToString, e]
theorem AtL.convRune {src dst : TypeId} {x : Operand} {kk : IntKind} {r : Int} (h1 : X.P.underlying src = some (.int kk)) (h2 : X.P.underlying dst = some .string) (hg : Wd X ops E g) (hd : Nat.blt d X.n = true) (hx : ev E x = some (.int kk r))
    (hk : AtL X ops os k ((d, str (encL r)) :: E) ds H) : AtL X ops (⟨some d, .convert src dst x, ty, pos, after, g⟩ :: os) k E ds H := AtL.ofIs (Do.convRune h1 h2 hx) hg hd hk
/-- A call of a function without a body, whose run is known. -/
theorem Do.callX {f : FuncId} {xs : Array Operand} {ts : Array TypeId} {args : List Value} {v : Value} (hx : evs E xs.toList = some args) (hr : ∀ w, Sep X.w0 X.base w H → (callFunc f args.toArray).run X.P w = .ok (.value v) w) : Does X E H (.call ⟨.value (.func f), xs, ts⟩) (Is v H) :=
  Does.core rfl fun dst ty pos after g ρ w hρ S => ⟨v, w, H, by
    have hf : ρ (.func f) = .func (.func f) #[] #[] := hρ _ _ rfl
    simp only [execOp, resolve, hf, Deferred.ofValue, evs_arr hρ hx, invoke, Sem.run_bind, Sem.run_pure, Result.andThen_ok]
    simpa using hr w S, S, rfl, rfl⟩
theorem AtL.callX {f : FuncId} {xs : Array Operand} {ts : Array TypeId} {args : List Value} {v : Value} (hr : ∀ w, Sep X.w0 X.base w H → (callFunc f args.toArray).run X.P w = .ok (.value v) w) (hg : Wd X ops E g) (hd : Nat.blt d X.n = true) (hx : evs E xs.toList = some args) 
    (hk : AtL X ops os k ((d, v) :: E) ds H) : AtL X ops (⟨some d, .call ⟨.value (.func f), xs, ts⟩, ty, pos, after, g⟩ :: os) k E ds H := AtL.ofIs (Do.callX hx hr) hg hd hk
/-- []byte(x) of a slice of bytes that was just made. -/
theorem AtL.convSl1 {t e : TypeId} {x : Operand} {b n : Nat} {cs : Array Value} {l : List UInt8} (i : Nat) (ht : X.P.underlying t = some (.slice e)) (he : X.P.underlying e = some (.int .u8)) (hi : H[i]? = some [(b, .cells cs e (0, 0))]) (hcs : cs = (tyB.cells l).toArray) (hn : n = l.length) (hle : l.length ≤ 9223372036854775807)
    (hg : Wd X ops E g) (hd : Nat.blt d X.n = true) (hx : ev E x = some (.slice (some ⟨b, 0, none⟩) n n)) 
    (hk : ∀ s, Own tyB e (some ⟨b, 0, none⟩) n l s → AtL X ops os k ((d, .slice (some ⟨b, 0, none⟩) n n) :: E) ds (H.set i s)) : AtL X ops (⟨some d, .convert t t x, ty, pos, after, g⟩ :: os) k E ds H := by
  refine AtL.of (R := fun v H' => v = .slice (some ⟨b, 0, none⟩) n n ∧ H' = H.set i [(b, .cells cs e (cs.size, cs.size + 1))]) (Does.core rfl fun dst ty pos after g ρ w hρ S => ?_) hg hd ?_
  · have hb := (S.at_ hi (j := 0) rfl).1
    have hw := S.write hi (j := 0) rfl (.cells cs e (cs.size, cs.size + 1)) (w' := w.freeze ⟨b, cs.size, none⟩ 1) rfl rfl rfl (by simp [World.freeze]) (by simp only [World.freeze]; rw [if_neg (by omega), Array.getElem?_modify, hb]; simp) (fun k hk => by
      simp only [World.freeze]
      rw [if_neg (by omega)]
      simp [Array.getElem?_modify, Ne.symm hk])
    refine ⟨_, w.freeze ⟨b, cs.size, none⟩ 1, _, ?_, hw, rfl, rfl⟩
    have hsh : w.shape? b = some (e, cs.size) := by simp only [World.shape?, hb]
    simp [execOp, hρ _ _ hx, convert, run_underlying ht, run_underlying he, markStringish, hsh]
  · rintro v H' ⟨rfl, rfl⟩
    refine hk _ ⟨[], by simp [hn], .inr ⟨b, [], [], (cs.size, cs.size + 1), by simp, by rw [hcs]; simp, ?_, by simpa using hle⟩⟩
    intro j hj
    rw [Bool.and_eq_false_iff, decide_eq_false_iff_not]
    left
    rw [hcs]
    simp [Ty.cells_len] at hj ⊢
    omega
theorem Cell.below {w0 : World} {base b o : Nat} {v : Value} (hb : b < base) (h : w0.cell? ⟨b, o, none⟩ = some v) : Cell w0 base H ⟨b, o, none⟩ v := fun w S => S.cellBelow hb h
/-- A cell of a table of the program's own. -/
theorem Cell.tab {w0 : World} {base b j : Nat} {v : Value} (hb : b < base) (h : w0.cell? ⟨b, j, none⟩ = some v) : Cell w0 base H (eaddr (some ⟨b, 0, none⟩) (j * 1)) v := by
  have e : eaddr (some ⟨b, 0, none⟩) (j * 1) = ⟨b, j, none⟩ := by simp [eaddr, addr_add]
  rw [e]
  exact Cell.below hb h
theorem w32i {z : Int} (h1 : -2147483648 ≤ z) (h2 : z ≤ 2147483647) : IntKind.i32.wrap z = z := by
  simp only [IntKind.wrap, IntKind.bits, IntKind.signed]
  simp
  omega
theorem and8 {a b : Int} (k : Nat) (hb : b = 2 ^ k - 1) (h1 : 0 ≤ a) (h2 : a < 256) : IntKind.u8.wrap ((BitVec.ofInt IntKind.u8.bits a &&& BitVec.ofInt IntKind.u8.bits b).toNat : Int) = a % 2 ^ k := by
  subst hb
  obtain ⟨n, rfl⟩ := Int.eq_ofNat_of_zero_le h1
  have h3 : (2 : Int) ^ k - 1 = ((2 ^ k - 1 : Nat) : Int) := by
    have : 0 < (2 : Nat) ^ k := Nat.pow_pos (by omega)
    rw [Int.natCast_sub (by omega)]
    push_cast
    rfl
  rw [h3]
  show IntKind.u8.wrap ((BitVec.ofInt 8 _ &&& BitVec.ofInt 8 _).toNat : Int) = _
  rw [BitVec.toNat_and, BitVec.toNat_ofInt, BitVec.toNat_ofInt]
  have h4 : (((n : Int) % (2 ^ 8 : Nat)).toNat) = n := by
    rw [Int.emod_eq_of_lt (by omega) (by omega)]; omega
  have h5 : ((((2 ^ k - 1 : Nat) : Int) % (2 ^ 8 : Nat)).toNat) = (2 ^ k - 1) % 2 ^ 8 := by omega
  rw [h4, h5]
  have h6 : n &&& (2 ^ k - 1) % 2 ^ 8 = n % 2 ^ k := by
    rw [← Nat.and_two_pow_sub_one_eq_mod n k]
    apply Nat.eq_of_testBit_eq
    intro i
    simp only [Nat.testBit_and, Nat.testBit_mod_two_pow, Nat.testBit_two_pow_sub_one]
    by_cases hi : i < 8
    · simp [hi]
    · have : n.testBit i = false := Nat.testBit_lt_two_pow (Nat.lt_of_lt_of_le (show n < 2 ^ 8 by omega) (Nat.pow_le_pow_right (by omega) (by omega)))
      simp [this]
  rw [h6]
  have h7 : n % 2 ^ k ≤ n := Nat.mod_le _ _
  rw [w8 (by omega) (by omega)]
  push_cast
  rfl
theorem or32 {a b : Int} (k : Nat) (hk : k ≤ 31) (h1 : 0 ≤ a) (h2 : a < 2 ^ k) (h3 : 0 ≤ b) (h4 : b < 2 ^ k) : ∃ z : Int, IntKind.i32.wrap ((BitVec.ofInt IntKind.i32.bits a ||| BitVec.ofInt IntKind.i32.bits b).toNat : Int) = z ∧ a ≤ z ∧ b ≤ z ∧ z < 2 ^ k := by
  have hk2 : (2 : Nat) ^ k ≤ 2 ^ 31 := Nat.pow_le_pow_right (by omega) hk
  obtain ⟨n, rfl⟩ := Int.eq_ofNat_of_zero_le h1
  obtain ⟨m, rfl⟩ := Int.eq_ofNat_of_zero_le h3
  have e : (BitVec.ofInt IntKind.i32.bits (n : Int) ||| BitVec.ofInt IntKind.i32.bits (m : Int)).toNat = n ||| m := by
    show (BitVec.ofInt 32 _ ||| BitVec.ofInt 32 _).toNat = _
    have h2' : n < 2 ^ k := by exact_mod_cast h2
    have h4' : m < 2 ^ k := by exact_mod_cast h4
    rw [BitVec.toNat_or, BitVec.toNat_ofInt, BitVec.toNat_ofInt]
    congr 1 <;> omega
  rw [e]
  have h5' : n ||| m < 2 ^ k := Nat.or_lt_two_pow (by exact_mod_cast h2) (by exact_mod_cast h4)
  have h5 : n ||| m < 2 ^ 31 := by omega
  have h6 : n ≤ n ||| m := Nat.left_le_or
  have h7 : m ≤ n ||| m := Nat.right_le_or
  exact ⟨((n ||| m : Nat) : Int), w32i (by omega) (by omega), by omega, by omega, by exact_mod_cast h5'⟩
theorem shl_eq32 (a b : Int) (c : Nat) (hb : b = (c : Int)) (hc : c ≤ 31) (d : Int) (hd : (2 : Int) ^ c = d) (h1 : -2147483648 ≤ a * d) (h2 : a * d ≤ 2147483647) : IntKind.i32.wrap (a * 2 ^ (min b.toNat IntKind.i32.bits)) = a * d := by
  subst hb
  rw [show min ((c : Int).toNat) IntKind.i32.bits = c from by simp [IntKind.bits]; omega, hd]
  exact w32i h1 h2
theorem Do.bandnot {kk : IntKind} {tx tz : TypeId} {x y : Operand} {a b z : Int} (hx : ev E x = some (.int kk a)) (hy : ev E y = some (.int kk b)) (hz : kk.wrap ((BitVec.ofInt kk.bits a &&& ~~~ BitVec.ofInt kk.bits b).toNat : Int) = z) : Does X E H (.binOp .andNot tx x y tz) (Is (.int kk z) H) :=
  Do.bin hx hy (fun w => by rw [← hz]; simp [eqGuard, binOp, Op.intBits])
theorem AtL.bandnot {kk : IntKind} {tx tz : TypeId} {x y : Operand} {a b z : Int} (hg : Wd X ops E g) (hd : Nat.blt d X.n = true) (hx : ev E x = some (.int kk a)) (hy : ev E y = some (.int kk b)) (hz : kk.wrap ((BitVec.ofInt kk.bits a &&& ~~~ BitVec.ofInt kk.bits b).toNat : Int) = z) (hk : AtL X ops os k ((d, .int kk z) :: E) ds H) :
    AtL X ops (⟨some d, .binOp .andNot tx x y tz, ty, pos, after, g⟩ :: os) k E ds H :=
  AtL.ofIs (Do.bandnot hx hy hz) hg hd hk
theorem andnot_ones (a : Int) : IntKind.i32.wrap ((BitVec.ofInt IntKind.i32.bits a &&& ~~~ BitVec.ofInt IntKind.i32.bits (-1)).toNat : Int) = 0 := by
  have : (~~~ BitVec.ofInt IntKind.i32.bits (-1)) = 0#IntKind.i32.bits := by decide
  rw [this]
  simp
  rfl
end
end Go.Proofs.YtlkdmbpbjhjkfaaGreatDoor
