/- A logic for walks: the rules of the operations that touch no memory. -/
import Derived.Test.YtlkdmbpbjhjkfaaGreatDoorLgB
import Derived.IntWalk
import Derived.WalkKit
import Derived.WalkSpells
import Derived.WalkLawsBesides
namespace Go.Proofs.YtlkdmbpbjhjkfaaGreatDoor
open Go.RowKit (Below)
set_option linter.unusedVariables false
set_option linter.unusedSimpArgs false

/-- A string's value. -/
def str (l : List UInt8) : Value := .string ⟨⟨l⟩⟩
/-- A byte's value. -/
def byt (u : UInt8) : Value := .int .u8 (u.toNat : Int)
/-- An int's value. -/
abbrev int (x : Int) : Value := .int .i64 x
theorem str_size (l : List UInt8) : (ByteArray.mk ⟨l⟩).size = l.length := rfl
theorem str_of (s : ByteArray) : Value.string s = str s.data.toList := rfl
theorem w64 {z : Int} (h1 : -9223372036854775808 ≤ z) (h2 : z ≤ 9223372036854775807) : IntKind.i64.wrap z = z := IntWalk.i64_in _ ⟨h1, h2⟩
theorem w8 {z : Int} (h1 : 0 ≤ z) (h2 : z ≤ 255) : IntKind.u8.wrap z = z := by
  simp only [IntKind.wrap, IntKind.bits, IntKind.signed, Bool.false_and, if_false]
  exact Int.emod_eq_of_lt h1 (by omega)
theorem w16 {z : Int} (h1 : 0 ≤ z) (h2 : z ≤ 65535) : IntKind.u16.wrap z = z := by
  simp only [IntKind.wrap, IntKind.bits, IntKind.signed, Bool.false_and, if_false]
  exact Int.emod_eq_of_lt h1 (by omega)
theorem w32u {z : Int} (h1 : 0 ≤ z) (h2 : z ≤ 4294967295) : IntKind.u32.wrap z = z := by
  simp only [IntKind.wrap, IntKind.bits, IntKind.signed, Bool.false_and, if_false]
  exact Int.emod_eq_of_lt h1 (by omega)
theorem ba_toList (l : List UInt8) : (ByteArray.mk ⟨l⟩).toList = l := ByteArray.toList_eq _
theorem ba_get (l : List UInt8) (j : Nat) (hj : j < l.length) : (ByteArray.mk ⟨l⟩)[j]? = some (l.getD j 0) := by
  rw [getElem?_pos (ByteArray.mk ⟨l⟩) j hj]
  show some l[j] = _
  simp [List.getD, hj]
theorem beq_dec (a b : List UInt8) : (a == b) = decide (a = b) := by
  rw [Bool.eq_iff_iff]; simp

section
variable {X : Pt} {k : List Item} {E : Env} {ds : List Deferred} {H : List Seg} {ops : Array Oper} {os : List Oper}
  {d : Nat} {ty : TypeId} {pos : String} {after : Array Edge} {g : Option (Nat × Bool)}

theorem Do.move {x : Operand} {v : Value} (hx : ev E x = some v) : Does X E H (.move x) (Is (v) H) :=
  Does.pureOp rfl (fun dst ty pos after g ρ w hρ => by simp [execOp, hρ _ _ hx])
theorem AtL.move {x : Operand} {v : Value} (hg : Wd X ops E g) (hd : Nat.blt d X.n = true) (hx : ev E x = some v) (hk : AtL X ops os k ((d, v) :: E) ds H) :
    AtL X ops (⟨some d, .move x, ty, pos, after, g⟩ :: os) k E ds H :=
  AtL.ofIs (Do.move hx) hg hd hk
theorem Do.assign {x : Operand} {v : Value} (hx : ev E x = some v) : Does X E H (.assign x) (Is (v) H) :=
  Does.pureOp rfl (fun dst ty pos after g ρ w hρ => by simp [execOp, hρ _ _ hx])
theorem AtL.assign {x : Operand} {v : Value} (hg : Wd X ops E g) (hd : Nat.blt d X.n = true) (hx : ev E x = some v) (hk : AtL X ops os k ((d, v) :: E) ds H) :
    AtL X ops (⟨some d, .assign x, ty, pos, after, g⟩ :: os) k E ds H :=
  AtL.ofIs (Do.assign hx) hg hd hk
theorem Do.pickT {c x y : Operand} {v : Value} (hc : ev E c = some (.bool true)) (hx : ev E x = some v) : Does X E H (.pick c x y) (Is (v) H) :=
  Does.pureOp rfl (fun dst ty pos after g ρ w hρ => by simp [execOp, hρ _ _ hx, hρ _ _ hc, asBool])
theorem AtL.pickT {c x y : Operand} {v : Value} (hg : Wd X ops E g) (hd : Nat.blt d X.n = true) (hc : ev E c = some (.bool true)) (hx : ev E x = some v) (hk : AtL X ops os k ((d, v) :: E) ds H) :
    AtL X ops (⟨some d, .pick c x y, ty, pos, after, g⟩ :: os) k E ds H :=
  AtL.ofIs (Do.pickT hc hx) hg hd hk
theorem Do.pickF {c x y : Operand} {v : Value} (hc : ev E c = some (.bool false)) (hy : ev E y = some v) : Does X E H (.pick c x y) (Is (v) H) :=
  Does.pureOp rfl (fun dst ty pos after g ρ w hρ => by simp [execOp, hρ _ _ hy, hρ _ _ hc, asBool])
theorem AtL.pickF {c x y : Operand} {v : Value} (hg : Wd X ops E g) (hd : Nat.blt d X.n = true) (hc : ev E c = some (.bool false)) (hy : ev E y = some v) (hk : AtL X ops os k ((d, v) :: E) ds H) :
    AtL X ops (⟨some d, .pick c x y, ty, pos, after, g⟩ :: os) k E ds H :=
  AtL.ofIs (Do.pickF hc hy) hg hd hk
/-- An operation on two values whose run is known. -/
theorem Do.bin {op : BinOp} {tx tz : TypeId} {x y : Operand} {a b v : Value} (hx : ev E x = some a) (hy : ev E y = some b) (hr : ∀ w, (do eqGuard op tx x y a b; binOp op tx a b : Sem Value).run X.P w = .ok v w) : Does X E H (.binOp op tx x y tz) (Is (v) H) :=
  Does.pureOp rfl (fun dst ty pos after g ρ w hρ => by
    have := hr w
    simp only [execOp, hρ _ _ hx, hρ _ _ hy, Sem.run_bind] at this ⊢
    rw [← Sem.run_bind, Sem.run_bind]
    simp only [Sem.run_bind, this, Result.andThen_ok, Sem.run_pure])
theorem AtL.bin {op : BinOp} {tx tz : TypeId} {x y : Operand} {a b v : Value} (hg : Wd X ops E g) (hd : Nat.blt d X.n = true) (hx : ev E x = some a) (hy : ev E y = some b)
    (hr : ∀ w, (do eqGuard op tx x y a b; binOp op tx a b : Sem Value).run X.P w = .ok v w) (hk : AtL X ops os k ((d, v) :: E) ds H) :
    AtL X ops (⟨some d, .binOp op tx x y tz, ty, pos, after, g⟩ :: os) k E ds H :=
  AtL.ofIs (Do.bin hx hy hr) hg hd hk
section ints
variable {kk : IntKind} {tx tz : TypeId} {x y : Operand} {a b z : Int}
theorem Do.add (hx : ev E x = some (.int kk a)) (hy : ev E y = some (.int kk b)) (hz : kk.wrap (a + b) = z) : Does X E H (.binOp .add tx x y tz) (Is (.int kk z) H) :=
  Do.bin hx hy (fun w => by simp [eqGuard, binOp, Op.intArith, hz])
theorem AtL.add (hg : Wd X ops E g) (hd : Nat.blt d X.n = true) (hx : ev E x = some (.int kk a)) (hy : ev E y = some (.int kk b)) (hz : kk.wrap (a + b) = z) (hk : AtL X ops os k ((d, .int kk z) :: E) ds H) :
    AtL X ops (⟨some d, .binOp .add tx x y tz, ty, pos, after, g⟩ :: os) k E ds H :=
  AtL.ofIs (Do.add hx hy hz) hg hd hk
theorem Do.sub (hx : ev E x = some (.int kk a)) (hy : ev E y = some (.int kk b)) (hz : kk.wrap (a - b) = z) : Does X E H (.binOp .sub tx x y tz) (Is (.int kk z) H) :=
  Do.bin hx hy (fun w => by simp [eqGuard, binOp, Op.intArith, hz])
theorem AtL.sub (hg : Wd X ops E g) (hd : Nat.blt d X.n = true) (hx : ev E x = some (.int kk a)) (hy : ev E y = some (.int kk b)) (hz : kk.wrap (a - b) = z) (hk : AtL X ops os k ((d, .int kk z) :: E) ds H) :
    AtL X ops (⟨some d, .binOp .sub tx x y tz, ty, pos, after, g⟩ :: os) k E ds H :=
  AtL.ofIs (Do.sub hx hy hz) hg hd hk
theorem Do.mul (hx : ev E x = some (.int kk a)) (hy : ev E y = some (.int kk b)) (hz : kk.wrap (a * b) = z) : Does X E H (.binOp .mul tx x y tz) (Is (.int kk z) H) :=
  Do.bin hx hy (fun w => by simp [eqGuard, binOp, Op.intArith, hz])
theorem AtL.mul (hg : Wd X ops E g) (hd : Nat.blt d X.n = true) (hx : ev E x = some (.int kk a)) (hy : ev E y = some (.int kk b)) (hz : kk.wrap (a * b) = z) (hk : AtL X ops os k ((d, .int kk z) :: E) ds H) :
    AtL X ops (⟨some d, .binOp .mul tx x y tz, ty, pos, after, g⟩ :: os) k E ds H :=
  AtL.ofIs (Do.mul hx hy hz) hg hd hk
theorem Do.quo (hx : ev E x = some (.int kk a)) (hy : ev E y = some (.int kk b)) (hb : b ≠ 0) (hz : kk.wrap (a.tdiv b) = z) : Does X E H (.binOp .quo tx x y tz) (Is (.int kk z) H) :=
  Do.bin hx hy (fun w => by simp [eqGuard, binOp, Op.intDiv, hz, hb])
theorem AtL.quo (hg : Wd X ops E g) (hd : Nat.blt d X.n = true) (hx : ev E x = some (.int kk a)) (hy : ev E y = some (.int kk b)) (hb : b ≠ 0) (hz : kk.wrap (a.tdiv b) = z) (hk : AtL X ops os k ((d, .int kk z) :: E) ds H) :
    AtL X ops (⟨some d, .binOp .quo tx x y tz, ty, pos, after, g⟩ :: os) k E ds H :=
  AtL.ofIs (Do.quo hx hy hb hz) hg hd hk
theorem Do.rem (hx : ev E x = some (.int kk a)) (hy : ev E y = some (.int kk b)) (hb : b ≠ 0) (hz : a.tmod b = z) : Does X E H (.binOp .rem tx x y tz) (Is (.int kk z) H) :=
  Do.bin hx hy (fun w => by simp [eqGuard, binOp, Op.intDiv, hz, hb])
theorem AtL.rem (hg : Wd X ops E g) (hd : Nat.blt d X.n = true) (hx : ev E x = some (.int kk a)) (hy : ev E y = some (.int kk b)) (hb : b ≠ 0) (hz : a.tmod b = z) (hk : AtL X ops os k ((d, .int kk z) :: E) ds H) :
    AtL X ops (⟨some d, .binOp .rem tx x y tz, ty, pos, after, g⟩ :: os) k E ds H :=
  AtL.ofIs (Do.rem hx hy hb hz) hg hd hk
theorem Do.shl {k2 : IntKind} (hx : ev E x = some (.int kk a)) (hy : ev E y = some (.int k2 b)) (hb : 0 ≤ b) (hz : kk.wrap (a * 2 ^ (min b.toNat kk.bits)) = z) : Does X E H (.binOp .shl tx x y tz) (Is (.int kk z) H) :=
  Do.bin hx hy (fun w => by simp [eqGuard, binOp, Op.shift, hz, show ¬ b < 0 by omega])
theorem AtL.shl {k2 : IntKind} (hg : Wd X ops E g) (hd : Nat.blt d X.n = true) (hx : ev E x = some (.int kk a)) (hy : ev E y = some (.int k2 b)) (hb : 0 ≤ b) (hz : kk.wrap (a * 2 ^ (min b.toNat kk.bits)) = z) (hk : AtL X ops os k ((d, .int kk z) :: E) ds H) :
    AtL X ops (⟨some d, .binOp .shl tx x y tz, ty, pos, after, g⟩ :: os) k E ds H :=
  AtL.ofIs (Do.shl hx hy hb hz) hg hd hk
theorem Do.shr {k2 : IntKind} (hx : ev E x = some (.int kk a)) (hy : ev E y = some (.int k2 b)) (hb : 0 ≤ b) (hz : a.fdiv (2 ^ (min b.toNat kk.bits)) = z) : Does X E H (.binOp .shr tx x y tz) (Is (.int kk z) H) :=
  Do.bin hx hy (fun w => by simp [eqGuard, binOp, Op.shift, hz, show ¬ b < 0 by omega])
theorem AtL.shr {k2 : IntKind} (hg : Wd X ops E g) (hd : Nat.blt d X.n = true) (hx : ev E x = some (.int kk a)) (hy : ev E y = some (.int k2 b)) (hb : 0 ≤ b) (hz : a.fdiv (2 ^ (min b.toNat kk.bits)) = z) (hk : AtL X ops os k ((d, .int kk z) :: E) ds H) :
    AtL X ops (⟨some d, .binOp .shr tx x y tz, ty, pos, after, g⟩ :: os) k E ds H :=
  AtL.ofIs (Do.shr hx hy hb hz) hg hd hk
theorem Do.band (hx : ev E x = some (.int kk a)) (hy : ev E y = some (.int kk b)) (hz : kk.wrap ((BitVec.ofInt kk.bits a &&& BitVec.ofInt kk.bits b).toNat : Int) = z) : Does X E H (.binOp .and tx x y tz) (Is (.int kk z) H) :=
  Do.bin hx hy (fun w => by rw [← hz]; simp [eqGuard, binOp, Op.intBits])
theorem AtL.band (hg : Wd X ops E g) (hd : Nat.blt d X.n = true) (hx : ev E x = some (.int kk a)) (hy : ev E y = some (.int kk b)) (hz : kk.wrap ((BitVec.ofInt kk.bits a &&& BitVec.ofInt kk.bits b).toNat : Int) = z) (hk : AtL X ops os k ((d, .int kk z) :: E) ds H) :
    AtL X ops (⟨some d, .binOp .and tx x y tz, ty, pos, after, g⟩ :: os) k E ds H :=
  AtL.ofIs (Do.band hx hy hz) hg hd hk
theorem Do.bor (hx : ev E x = some (.int kk a)) (hy : ev E y = some (.int kk b)) (hz : kk.wrap ((BitVec.ofInt kk.bits a ||| BitVec.ofInt kk.bits b).toNat : Int) = z) : Does X E H (.binOp .or tx x y tz) (Is (.int kk z) H) :=
  Do.bin hx hy (fun w => by rw [← hz]; simp [eqGuard, binOp, Op.intBits])
theorem AtL.bor (hg : Wd X ops E g) (hd : Nat.blt d X.n = true) (hx : ev E x = some (.int kk a)) (hy : ev E y = some (.int kk b)) (hz : kk.wrap ((BitVec.ofInt kk.bits a ||| BitVec.ofInt kk.bits b).toNat : Int) = z) (hk : AtL X ops os k ((d, .int kk z) :: E) ds H) :
    AtL X ops (⟨some d, .binOp .or tx x y tz, ty, pos, after, g⟩ :: os) k E ds H :=
  AtL.ofIs (Do.bor hx hy hz) hg hd hk
theorem Do.bxor (hx : ev E x = some (.int kk a)) (hy : ev E y = some (.int kk b)) (hz : kk.wrap ((BitVec.ofInt kk.bits a ^^^ BitVec.ofInt kk.bits b).toNat : Int) = z) : Does X E H (.binOp .xor tx x y tz) (Is (.int kk z) H) :=
  Do.bin hx hy (fun w => by rw [← hz]; simp [eqGuard, binOp, Op.intBits])
theorem AtL.bxor (hg : Wd X ops E g) (hd : Nat.blt d X.n = true) (hx : ev E x = some (.int kk a)) (hy : ev E y = some (.int kk b)) (hz : kk.wrap ((BitVec.ofInt kk.bits a ^^^ BitVec.ofInt kk.bits b).toNat : Int) = z) (hk : AtL X ops os k ((d, .int kk z) :: E) ds H) :
    AtL X ops (⟨some d, .binOp .xor tx x y tz, ty, pos, after, g⟩ :: os) k E ds H :=
  AtL.ofIs (Do.bxor hx hy hz) hg hd hk
theorem Do.lss (hx : ev E x = some (.int kk a)) (hy : ev E y = some (.int kk b)) : Does X E H (.binOp .lss tx x y tz) (Is (.bool (decide (a < b))) H) :=
  Do.bin hx hy (fun w => by simp [eqGuard, binOp, Op.intCmp])
theorem AtL.lss (hg : Wd X ops E g) (hd : Nat.blt d X.n = true) (hx : ev E x = some (.int kk a)) (hy : ev E y = some (.int kk b)) (hk : AtL X ops os k ((d, .bool (decide (a < b))) :: E) ds H) :
    AtL X ops (⟨some d, .binOp .lss tx x y tz, ty, pos, after, g⟩ :: os) k E ds H :=
  AtL.ofIs (Do.lss hx hy) hg hd hk
theorem Do.leq (hx : ev E x = some (.int kk a)) (hy : ev E y = some (.int kk b)) : Does X E H (.binOp .leq tx x y tz) (Is (.bool (decide (a ≤ b))) H) :=
  Do.bin hx hy (fun w => by simp [eqGuard, binOp, Op.intCmp])
theorem AtL.leq (hg : Wd X ops E g) (hd : Nat.blt d X.n = true) (hx : ev E x = some (.int kk a)) (hy : ev E y = some (.int kk b)) (hk : AtL X ops os k ((d, .bool (decide (a ≤ b))) :: E) ds H) :
    AtL X ops (⟨some d, .binOp .leq tx x y tz, ty, pos, after, g⟩ :: os) k E ds H :=
  AtL.ofIs (Do.leq hx hy) hg hd hk
theorem Do.gtr (hx : ev E x = some (.int kk a)) (hy : ev E y = some (.int kk b)) : Does X E H (.binOp .gtr tx x y tz) (Is (.bool (decide (b < a))) H) :=
  Do.bin hx hy (fun w => by simp [eqGuard, binOp, Op.intCmp])
theorem AtL.gtr (hg : Wd X ops E g) (hd : Nat.blt d X.n = true) (hx : ev E x = some (.int kk a)) (hy : ev E y = some (.int kk b)) (hk : AtL X ops os k ((d, .bool (decide (b < a))) :: E) ds H) :
    AtL X ops (⟨some d, .binOp .gtr tx x y tz, ty, pos, after, g⟩ :: os) k E ds H :=
  AtL.ofIs (Do.gtr hx hy) hg hd hk
theorem Do.geq (hx : ev E x = some (.int kk a)) (hy : ev E y = some (.int kk b)) : Does X E H (.binOp .geq tx x y tz) (Is (.bool (decide (b ≤ a))) H) :=
  Do.bin hx hy (fun w => by simp [eqGuard, binOp, Op.intCmp])
theorem AtL.geq (hg : Wd X ops E g) (hd : Nat.blt d X.n = true) (hx : ev E x = some (.int kk a)) (hy : ev E y = some (.int kk b)) (hk : AtL X ops os k ((d, .bool (decide (b ≤ a))) :: E) ds H) :
    AtL X ops (⟨some d, .binOp .geq tx x y tz, ty, pos, after, g⟩ :: os) k E ds H :=
  AtL.ofIs (Do.geq hx hy) hg hd hk
theorem Do.eqi (hx : ev E x = some (.int kk a)) (hy : ev E y = some (.int kk b)) : Does X E H (.binOp .eql tx x y tz) (Is (.bool (decide (a = b))) H) :=
  Do.bin hx hy (fun w => by simp [eqGuard, binOp, Op.intCmp]; rfl)
theorem AtL.eqi (hg : Wd X ops E g) (hd : Nat.blt d X.n = true) (hx : ev E x = some (.int kk a)) (hy : ev E y = some (.int kk b)) (hk : AtL X ops os k ((d, .bool (decide (a = b))) :: E) ds H) :
    AtL X ops (⟨some d, .binOp .eql tx x y tz, ty, pos, after, g⟩ :: os) k E ds H :=
  AtL.ofIs (Do.eqi hx hy) hg hd hk
theorem Do.nei (hx : ev E x = some (.int kk a)) (hy : ev E y = some (.int kk b)) : Does X E H (.binOp .neq tx x y tz) (Is (.bool (!decide (a = b))) H) :=
  Do.bin hx hy (fun w => by simp [eqGuard, binOp, Op.intCmp]; rfl)
theorem AtL.nei (hg : Wd X ops E g) (hd : Nat.blt d X.n = true) (hx : ev E x = some (.int kk a)) (hy : ev E y = some (.int kk b)) (hk : AtL X ops os k ((d, .bool (!decide (a = b))) :: E) ds H) :
    AtL X ops (⟨some d, .binOp .neq tx x y tz, ty, pos, after, g⟩ :: os) k E ds H :=
  AtL.ofIs (Do.nei hx hy) hg hd hk
end ints
section strings
variable {tx tz : TypeId} {x y : Operand} {a b : List UInt8}
theorem Do.eqs (hx : ev E x = some (str a)) (hy : ev E y = some (str b)) : Does X E H (.binOp .eql tx x y tz) (Is (.bool (decide (a = b))) H) :=
  Do.bin hx hy (fun w => by simp [str, eqGuard, binOp_string_eql, ba_toList, beq_dec])
theorem AtL.eqs (hg : Wd X ops E g) (hd : Nat.blt d X.n = true) (hx : ev E x = some (str a)) (hy : ev E y = some (str b)) (hk : AtL X ops os k ((d, .bool (decide (a = b))) :: E) ds H) :
    AtL X ops (⟨some d, .binOp .eql tx x y tz, ty, pos, after, g⟩ :: os) k E ds H :=
  AtL.ofIs (Do.eqs hx hy) hg hd hk
theorem Do.nes (hx : ev E x = some (str a)) (hy : ev E y = some (str b)) : Does X E H (.binOp .neq tx x y tz) (Is (.bool (!decide (a = b))) H) :=
  Do.bin hx hy (fun w => by simp [str, eqGuard, binOp_string_neq, ba_toList, beq_dec])
theorem AtL.nes (hg : Wd X ops E g) (hd : Nat.blt d X.n = true) (hx : ev E x = some (str a)) (hy : ev E y = some (str b)) (hk : AtL X ops os k ((d, .bool (!decide (a = b))) :: E) ds H) :
    AtL X ops (⟨some d, .binOp .neq tx x y tz, ty, pos, after, g⟩ :: os) k E ds H :=
  AtL.ofIs (Do.nes hx hy) hg hd hk
theorem Do.cat (hx : ev E x = some (str a)) (hy : ev E y = some (str b)) (hl : a.length + b.length ≤ 9223372036854775807) : Does X E H (.binOp .add tx x y tz) (Is (str (a ++ b)) H) :=
  Do.bin hx hy (fun w => by
    have h : ¬ ((9223372036854775807 : Int) < ((a.length : Int) + (b.length : Int))) := by omega
    have e : (ByteArray.mk ⟨a⟩ ++ ByteArray.mk ⟨b⟩) = ByteArray.mk ⟨a ++ b⟩ := by
      apply ByteArray.ext
      simp
    simp [str, eqGuard, binOp, Op.stringOp, IntKind.max, IntKind.bits, IntKind.signed, str_size, h, e])
theorem AtL.cat (hg : Wd X ops E g) (hd : Nat.blt d X.n = true) (hx : ev E x = some (str a)) (hy : ev E y = some (str b)) (hl : a.length + b.length ≤ 9223372036854775807) (hk : AtL X ops os k ((d, str (a ++ b)) :: E) ds H) :
    AtL X ops (⟨some d, .binOp .add tx x y tz, ty, pos, after, g⟩ :: os) k E ds H :=
  AtL.ofIs (Do.cat hx hy hl) hg hd hk
end strings
theorem Do.not {tx : TypeId} {x : Operand} {b : Bool} (hx : ev E x = some (.bool b)) : Does X E H (.unOp .not tx x) (Is (.bool (!b)) H) :=
  Does.pureOp rfl (fun dst ty pos after g ρ w hρ => by simp [execOp, hρ _ _ hx, Op.unary])
theorem AtL.not {tx : TypeId} {x : Operand} {b : Bool} (hg : Wd X ops E g) (hd : Nat.blt d X.n = true) (hx : ev E x = some (.bool b)) (hk : AtL X ops os k ((d, .bool (!b)) :: E) ds H) :
    AtL X ops (⟨some d, .unOp .not tx x, ty, pos, after, g⟩ :: os) k E ds H :=
  AtL.ofIs (Do.not hx) hg hd hk
theorem Do.neg {tx : TypeId} {x : Operand} {kk : IntKind} {a z : Int} (hx : ev E x = some (.int kk a)) (hz : kk.wrap (0 - a) = z) : Does X E H (.unOp .neg tx x) (Is (.int kk z) H) :=
  Does.pureOp rfl (fun dst ty pos after g ρ w hρ => by
    rw [← hz]
    simp [execOp, hρ _ _ hx, Op.unary, Op.intArith])
theorem AtL.neg {tx : TypeId} {x : Operand} {kk : IntKind} {a z : Int} (hg : Wd X ops E g) (hd : Nat.blt d X.n = true) (hx : ev E x = some (.int kk a)) (hz : kk.wrap (0 - a) = z) (hk : AtL X ops os k ((d, .int kk z) :: E) ds H) :
    AtL X ops (⟨some d, .unOp .neg tx x, ty, pos, after, g⟩ :: os) k E ds H :=
  AtL.ofIs (Do.neg hx hz) hg hd hk
/-- A comparison whose run by Op.equal is known. -/
theorem Do.eqBy {tx tz : TypeId} {x y : Operand} {a b : Value} {t : Bool} (hs : binOp .eql tx a b = (do pure (.bool (← Op.equal tx a b)) : Sem Value)) (hgd : eqGuard .eql tx x y a b = pure ()) (hx : ev E x = some a) (hy : ev E y = some b) (he : ∀ w, (Op.equalIn (9999 + 1) tx a b).run X.P w = .ok t w) : Does X E H (.binOp .eql tx x y tz) (Is (.bool t) H) :=
  Do.bin hx hy (fun w => by
    have : (Op.equal tx a b).run X.P w = .ok t w := he w
    rw [hs, hgd]
    simp only [Sem.run_bind, Sem.run_pure, Result.andThen_ok, this])
theorem AtL.eqBy {tx tz : TypeId} {x y : Operand} {a b : Value} {t : Bool} (hs : binOp .eql tx a b = (do pure (.bool (← Op.equal tx a b)) : Sem Value)) (hgd : eqGuard .eql tx x y a b = pure ()) (hg : Wd X ops E g) (hd : Nat.blt d X.n = true) (hx : ev E x = some a) (hy : ev E y = some b)
    (he : ∀ w, (Op.equalIn (9999 + 1) tx a b).run X.P w = .ok t w) (hk : AtL X ops os k ((d, .bool t) :: E) ds H) :
    AtL X ops (⟨some d, .binOp .eql tx x y tz, ty, pos, after, g⟩ :: os) k E ds H :=
  AtL.ofIs (Do.eqBy hs hgd hx hy he) hg hd hk
theorem Do.neBy {tx tz : TypeId} {x y : Operand} {a b : Value} {t : Bool} (hs : binOp .neq tx a b = (do pure (.bool (!(← Op.equal tx a b))) : Sem Value)) (hgd : eqGuard .neq tx x y a b = pure ()) (hx : ev E x = some a) (hy : ev E y = some b) (he : ∀ w, (Op.equalIn (9999 + 1) tx a b).run X.P w = .ok t w) : Does X E H (.binOp .neq tx x y tz) (Is (.bool (!t)) H) :=
  Do.bin hx hy (fun w => by
    have : (Op.equal tx a b).run X.P w = .ok t w := he w
    rw [hs, hgd]
    simp only [Sem.run_bind, Sem.run_pure, Result.andThen_ok, this])
theorem AtL.neBy {tx tz : TypeId} {x y : Operand} {a b : Value} {t : Bool} (hs : binOp .neq tx a b = (do pure (.bool (!(← Op.equal tx a b))) : Sem Value)) (hgd : eqGuard .neq tx x y a b = pure ()) (hg : Wd X ops E g) (hd : Nat.blt d X.n = true) (hx : ev E x = some a) (hy : ev E y = some b)
    (he : ∀ w, (Op.equalIn (9999 + 1) tx a b).run X.P w = .ok t w) (hk : AtL X ops os k ((d, .bool (!t)) :: E) ds H) :
    AtL X ops (⟨some d, .binOp .neq tx x y tz, ty, pos, after, g⟩ :: os) k E ds H :=
  AtL.ofIs (Do.neBy hs hgd hx hy he) hg hd hk
theorem Do.eqb {tx tz : TypeId} {x y : Operand} {a b : Bool} (hu : X.P.underlying tx = some .bool) (hx : ev E x = some (.bool a)) (hy : ev E y = some (.bool b)) : Does X E H (.binOp .eql tx x y tz) (Is (.bool (a == b)) H) :=
  Do.eqBy rfl rfl hx hy (fun w => run_equalIn_bool w _ _ _ _ hu)
theorem AtL.eqb {tx tz : TypeId} {x y : Operand} {a b : Bool} (hu : X.P.underlying tx = some .bool) (hg : Wd X ops E g) (hd : Nat.blt d X.n = true) (hx : ev E x = some (.bool a)) (hy : ev E y = some (.bool b)) (hk : AtL X ops os k ((d, .bool (a == b)) :: E) ds H) :
    AtL X ops (⟨some d, .binOp .eql tx x y tz, ty, pos, after, g⟩ :: os) k E ds H :=
  AtL.ofIs (Do.eqb hu hx hy) hg hd hk
theorem Do.neb {tx tz : TypeId} {x y : Operand} {a b : Bool} (hu : X.P.underlying tx = some .bool) (hx : ev E x = some (.bool a)) (hy : ev E y = some (.bool b)) : Does X E H (.binOp .neq tx x y tz) (Is (.bool (!(a == b))) H) :=
  Do.neBy rfl rfl hx hy (fun w => run_equalIn_bool w _ _ _ _ hu)
theorem AtL.neb {tx tz : TypeId} {x y : Operand} {a b : Bool} (hu : X.P.underlying tx = some .bool) (hg : Wd X ops E g) (hd : Nat.blt d X.n = true) (hx : ev E x = some (.bool a)) (hy : ev E y = some (.bool b)) (hk : AtL X ops os k ((d, .bool (!(a == b))) :: E) ds H) :
    AtL X ops (⟨some d, .binOp .neq tx x y tz, ty, pos, after, g⟩ :: os) k E ds H :=
  AtL.ofIs (Do.neb hu hx hy) hg hd hk
theorem Do.eqSliceNil {tx tz e : TypeId} {x y : Operand} {A : Option Addr} {n c : Nat} (hu : X.P.underlying tx = some (.slice e)) (hx : ev E x = some (.slice A n c)) (hy : ev E y = some (.slice none 0 0)) : Does X E H (.binOp .eql tx x y tz) (Is (.bool A.isNone) H) :=
  Do.eqBy rfl rfl hx hy (fun w => run_equalIn_slice_nil w _ _ _ _ _ _ hu)
theorem AtL.eqSliceNil {tx tz e : TypeId} {x y : Operand} {A : Option Addr} {n c : Nat} (hu : X.P.underlying tx = some (.slice e)) (hg : Wd X ops E g) (hd : Nat.blt d X.n = true) (hx : ev E x = some (.slice A n c)) (hy : ev E y = some (.slice none 0 0)) (hk : AtL X ops os k ((d, .bool A.isNone) :: E) ds H) :
    AtL X ops (⟨some d, .binOp .eql tx x y tz, ty, pos, after, g⟩ :: os) k E ds H :=
  AtL.ofIs (Do.eqSliceNil hu hx hy) hg hd hk
theorem Do.neSliceNil {tx tz e : TypeId} {x y : Operand} {A : Option Addr} {n c : Nat} (hu : X.P.underlying tx = some (.slice e)) (hx : ev E x = some (.slice A n c)) (hy : ev E y = some (.slice none 0 0)) : Does X E H (.binOp .neq tx x y tz) (Is (.bool (!A.isNone)) H) :=
  Do.neBy rfl rfl hx hy (fun w => run_equalIn_slice_nil w _ _ _ _ _ _ hu)
theorem AtL.neSliceNil {tx tz e : TypeId} {x y : Operand} {A : Option Addr} {n c : Nat} (hu : X.P.underlying tx = some (.slice e)) (hg : Wd X ops E g) (hd : Nat.blt d X.n = true) (hx : ev E x = some (.slice A n c)) (hy : ev E y = some (.slice none 0 0)) (hk : AtL X ops os k ((d, .bool (!A.isNone)) :: E) ds H) :
    AtL X ops (⟨some d, .binOp .neq tx x y tz, ty, pos, after, g⟩ :: os) k E ds H :=
  AtL.ofIs (Do.neSliceNil hu hx hy) hg hd hk
theorem eqIn_ptr_nil {P : Program} {w : World} {n : Nat} {t e : TypeId} {A : Option Addr} (hu : P.underlying t = some (.pointer e)) : (Op.equalIn (n + 1) t (.pointer A) (.pointer none)).run P w = .ok A.isNone w := by
  cases A with
  | none => simp [Op.equalIn, run_underlying hu]
  | some p => simp [Op.equalIn, run_underlying hu]
theorem eqIn_iface_nil {P : Program} {w : World} {n : Nat} {t u : TypeId} {v : Value} {ms : Array (String × TypeId)} (hu : P.underlying t = some (.interface ms)) : (Op.equalIn (n + 1) t (.iface u v) .nilIface).run P w = .ok false w := by
  simp [Op.equalIn, run_underlying hu]
theorem eqIn_func_nil {P : Program} {w : World} {n : Nat} {t : TypeId} {p r : Array TypeId} {vd : Bool} {f : Fn} {u c : Array Value} (hu : P.underlying t = some (.func p r vd)) : (Op.equalIn (n + 1) t (.func f u c) .nilFunc).run P w = .ok false w := by
  simp [Op.equalIn, run_underlying hu]
theorem eqIn_nilFunc {P : Program} {w : World} {n : Nat} {t : TypeId} {p r : Array TypeId} {vd : Bool} (hu : P.underlying t = some (.func p r vd)) : (Op.equalIn (n + 1) t .nilFunc .nilFunc).run P w = .ok true w := by
  simp [Op.equalIn, run_underlying hu]
theorem Do.eqPtrNil {tx tz e : TypeId} {x y : Operand} {A : Option Addr} (hu : X.P.underlying tx = some (.pointer e)) (hx : ev E x = some (.pointer A)) (hy : ev E y = some (.pointer none)) : Does X E H (.binOp .eql tx x y tz) (Is (.bool A.isNone) H) :=
  Do.eqBy (by cases A <;> rfl) rfl hx hy (fun w => eqIn_ptr_nil hu)
theorem AtL.eqPtrNil {tx tz e : TypeId} {x y : Operand} {A : Option Addr} (hu : X.P.underlying tx = some (.pointer e)) (hg : Wd X ops E g) (hd : Nat.blt d X.n = true) (hx : ev E x = some (.pointer A)) (hy : ev E y = some (.pointer none)) (hk : AtL X ops os k ((d, .bool A.isNone) :: E) ds H) :
    AtL X ops (⟨some d, .binOp .eql tx x y tz, ty, pos, after, g⟩ :: os) k E ds H :=
  AtL.ofIs (Do.eqPtrNil hu hx hy) hg hd hk
theorem Do.nePtrNil {tx tz e : TypeId} {x y : Operand} {A : Option Addr} (hu : X.P.underlying tx = some (.pointer e)) (hx : ev E x = some (.pointer A)) (hy : ev E y = some (.pointer none)) : Does X E H (.binOp .neq tx x y tz) (Is (.bool (!A.isNone)) H) :=
  Do.neBy (by cases A <;> rfl) rfl hx hy (fun w => eqIn_ptr_nil hu)
theorem AtL.nePtrNil {tx tz e : TypeId} {x y : Operand} {A : Option Addr} (hu : X.P.underlying tx = some (.pointer e)) (hg : Wd X ops E g) (hd : Nat.blt d X.n = true) (hx : ev E x = some (.pointer A)) (hy : ev E y = some (.pointer none)) (hk : AtL X ops os k ((d, .bool (!A.isNone)) :: E) ds H) :
    AtL X ops (⟨some d, .binOp .neq tx x y tz, ty, pos, after, g⟩ :: os) k E ds H :=
  AtL.ofIs (Do.nePtrNil hu hx hy) hg hd hk
theorem Do.eqIfaceNil {tx tz : TypeId} {x y : Operand} {ms : Array (String × TypeId)} {t : TypeId} {v : Value} (hu : X.P.underlying tx = some (.interface ms)) (hx : ev E x = some (.iface t v)) (hy : ev E y = some .nilIface) : Does X E H (.binOp .eql tx x y tz) (Is (.bool false) H) :=
  Do.eqBy rfl rfl hx hy (fun w => eqIn_iface_nil hu)
theorem AtL.eqIfaceNil {tx tz : TypeId} {x y : Operand} {ms : Array (String × TypeId)} {t : TypeId} {v : Value} (hu : X.P.underlying tx = some (.interface ms)) (hg : Wd X ops E g) (hd : Nat.blt d X.n = true) (hx : ev E x = some (.iface t v)) (hy : ev E y = some .nilIface) (hk : AtL X ops os k ((d, .bool false) :: E) ds H) :
    AtL X ops (⟨some d, .binOp .eql tx x y tz, ty, pos, after, g⟩ :: os) k E ds H :=
  AtL.ofIs (Do.eqIfaceNil hu hx hy) hg hd hk
theorem Do.neIfaceNil {tx tz : TypeId} {x y : Operand} {ms : Array (String × TypeId)} {t : TypeId} {v : Value} (hu : X.P.underlying tx = some (.interface ms)) (hx : ev E x = some (.iface t v)) (hy : ev E y = some .nilIface) : Does X E H (.binOp .neq tx x y tz) (Is (.bool true) H) :=
  Do.neBy rfl rfl hx hy (fun w => eqIn_iface_nil hu)
theorem AtL.neIfaceNil {tx tz : TypeId} {x y : Operand} {ms : Array (String × TypeId)} {t : TypeId} {v : Value} (hu : X.P.underlying tx = some (.interface ms)) (hg : Wd X ops E g) (hd : Nat.blt d X.n = true) (hx : ev E x = some (.iface t v)) (hy : ev E y = some .nilIface) (hk : AtL X ops os k ((d, .bool true) :: E) ds H) :
    AtL X ops (⟨some d, .binOp .neq tx x y tz, ty, pos, after, g⟩ :: os) k E ds H :=
  AtL.ofIs (Do.neIfaceNil hu hx hy) hg hd hk
theorem Do.eqFuncNil {tx tz : TypeId} {x y : Operand} {p r : Array TypeId} {vd : Bool} {f : Fn} {u c : Array Value} (hu : X.P.underlying tx = some (.func p r vd)) (hx : ev E x = some (.func f u c)) (hy : ev E y = some .nilFunc) : Does X E H (.binOp .eql tx x y tz) (Is (.bool false) H) :=
  Do.eqBy rfl rfl hx hy (fun w => eqIn_func_nil hu)
theorem AtL.eqFuncNil {tx tz : TypeId} {x y : Operand} {p r : Array TypeId} {vd : Bool} {f : Fn} {u c : Array Value} (hu : X.P.underlying tx = some (.func p r vd)) (hg : Wd X ops E g) (hd : Nat.blt d X.n = true) (hx : ev E x = some (.func f u c)) (hy : ev E y = some .nilFunc) (hk : AtL X ops os k ((d, .bool false) :: E) ds H) :
    AtL X ops (⟨some d, .binOp .eql tx x y tz, ty, pos, after, g⟩ :: os) k E ds H :=
  AtL.ofIs (Do.eqFuncNil hu hx hy) hg hd hk
theorem Do.neFuncNil {tx tz : TypeId} {x y : Operand} {p r : Array TypeId} {vd : Bool} {f : Fn} {u c : Array Value} (hu : X.P.underlying tx = some (.func p r vd)) (hx : ev E x = some (.func f u c)) (hy : ev E y = some .nilFunc) : Does X E H (.binOp .neq tx x y tz) (Is (.bool true) H) :=
  Do.neBy rfl rfl hx hy (fun w => eqIn_func_nil hu)
theorem AtL.neFuncNil {tx tz : TypeId} {x y : Operand} {p r : Array TypeId} {vd : Bool} {f : Fn} {u c : Array Value} (hu : X.P.underlying tx = some (.func p r vd)) (hg : Wd X ops E g) (hd : Nat.blt d X.n = true) (hx : ev E x = some (.func f u c)) (hy : ev E y = some .nilFunc) (hk : AtL X ops os k ((d, .bool true) :: E) ds H) :
    AtL X ops (⟨some d, .binOp .neq tx x y tz, ty, pos, after, g⟩ :: os) k E ds H :=
  AtL.ofIs (Do.neFuncNil hu hx hy) hg hd hk
theorem Do.eqNilFunc {tx tz : TypeId} {x y : Operand} {p r : Array TypeId} {vd : Bool} (hu : X.P.underlying tx = some (.func p r vd)) (hx : ev E x = some .nilFunc) (hy : ev E y = some .nilFunc) : Does X E H (.binOp .eql tx x y tz) (Is (.bool true) H) :=
  Do.eqBy rfl rfl hx hy (fun w => eqIn_nilFunc hu)
theorem AtL.eqNilFunc {tx tz : TypeId} {x y : Operand} {p r : Array TypeId} {vd : Bool} (hu : X.P.underlying tx = some (.func p r vd)) (hg : Wd X ops E g) (hd : Nat.blt d X.n = true) (hx : ev E x = some .nilFunc) (hy : ev E y = some .nilFunc) (hk : AtL X ops os k ((d, .bool true) :: E) ds H) :
    AtL X ops (⟨some d, .binOp .eql tx x y tz, ty, pos, after, g⟩ :: os) k E ds H :=
  AtL.ofIs (Do.eqNilFunc hu hx hy) hg hd hk
theorem Do.neNilFunc {tx tz : TypeId} {x y : Operand} {p r : Array TypeId} {vd : Bool} (hu : X.P.underlying tx = some (.func p r vd)) (hx : ev E x = some .nilFunc) (hy : ev E y = some .nilFunc) : Does X E H (.binOp .neq tx x y tz) (Is (.bool false) H) :=
  Do.neBy rfl rfl hx hy (fun w => eqIn_nilFunc hu)
theorem AtL.neNilFunc {tx tz : TypeId} {x y : Operand} {p r : Array TypeId} {vd : Bool} (hu : X.P.underlying tx = some (.func p r vd)) (hg : Wd X ops E g) (hd : Nat.blt d X.n = true) (hx : ev E x = some .nilFunc) (hy : ev E y = some .nilFunc) (hk : AtL X ops os k ((d, .bool false) :: E) ds H) :
    AtL X ops (⟨some d, .binOp .neq tx x y tz, ty, pos, after, g⟩ :: os) k E ds H :=
  AtL.ofIs (Do.neNilFunc hu hx hy) hg hd hk
theorem Do.nilCheck {x : Operand} {p : Addr} (hx : ev E x = some (.pointer (some p))) : Does X E H (.nilCheck x) (Is (.pointer (some p)) H) :=
  Does.pureOp rfl (fun dst ty pos after g ρ w hρ => by simp [execOp, hρ _ _ hx])
theorem AtL.nilCheck {x : Operand} {p : Addr} (hg : Wd X ops E g) (hd : Nat.blt d X.n = true) (hx : ev E x = some (.pointer (some p))) (hk : AtL X ops os k ((d, .pointer (some p)) :: E) ds H) :
    AtL X ops (⟨some d, .nilCheck x, ty, pos, after, g⟩ :: os) k E ds H :=
  AtL.ofIs (Do.nilCheck hx) hg hd hk
theorem Do.nilCheckI {x : Operand} {t : TypeId} {v : Value} (hx : ev E x = some (.iface t v)) : Does X E H (.nilCheck x) (Is (.iface t v) H) :=
  Does.pureOp rfl (fun dst ty pos after g ρ w hρ => by simp [execOp, hρ _ _ hx])
theorem AtL.nilCheckI {x : Operand} {t : TypeId} {v : Value} (hg : Wd X ops E g) (hd : Nat.blt d X.n = true) (hx : ev E x = some (.iface t v)) (hk : AtL X ops os k ((d, .iface t v) :: E) ds H) :
    AtL X ops (⟨some d, .nilCheck x, ty, pos, after, g⟩ :: os) k E ds H :=
  AtL.ofIs (Do.nilCheckI hx) hg hd hk
/-- A check of a function value that is a method behind an interface value. -/
theorem Do.nilCheckM {x : Operand} {nm : String} {t : TypeId} {u : Value} {c : Array Value} (hx : ev E x = some (.func (.method nm) #[.iface t u] c)) (hn : ∀ w, (nilAhead (X.P.types.size + Made.depth) t u nm).run X.P w = .ok (some false) w) : Does X E H (.nilCheck x) (Is (.func (.method nm) #[.iface t u] c) H) :=
  Does.pureOp rfl (fun dst ty pos after g ρ w hρ => by simp [execOp, hρ _ _ hx, hn])
theorem AtL.nilCheckM {x : Operand} {nm : String} {t : TypeId} {u : Value} {c : Array Value} (hg : Wd X ops E g) (hd : Nat.blt d X.n = true) (hx : ev E x = some (.func (.method nm) #[.iface t u] c))
    (hn : ∀ w, (nilAhead (X.P.types.size + Made.depth) t u nm).run X.P w = .ok (some false) w) (hk : AtL X ops os k ((d, .func (.method nm) #[.iface t u] c) :: E) ds H) :
    AtL X ops (⟨some d, .nilCheck x, ty, pos, after, g⟩ :: os) k E ds H :=
  AtL.ofIs (Do.nilCheckM hx hn) hg hd hk
theorem Do.nilCheckF {x : Operand} {f : FuncId} {u c : Array Value} (hx : ev E x = some (.func (.func f) u c)) : Does X E H (.nilCheck x) (Is (.func (.func f) u c) H) :=
  Does.pureOp rfl (fun dst ty pos after g ρ w hρ => by simp [execOp, hρ _ _ hx])
theorem AtL.nilCheckF {x : Operand} {f : FuncId} {u c : Array Value} (hg : Wd X ops E g) (hd : Nat.blt d X.n = true) (hx : ev E x = some (.func (.func f) u c)) (hk : AtL X ops os k ((d, .func (.func f) u c) :: E) ds H) :
    AtL X ops (⟨some d, .nilCheck x, ty, pos, after, g⟩ :: os) k E ds H :=
  AtL.ofIs (Do.nilCheckF hx) hg hd hk
theorem Do.extract {x : Operand} {i : Nat} {vs : Array Value} {v : Value} (hx : ev E x = some (.tuple vs)) (hi : vs[i]? = some v) : Does X E H (.extract x i) (Is (v) H) :=
  Does.pureOp rfl (fun dst ty pos after g ρ w hρ => by simp [execOp, hρ _ _ hx, Instr.extract, hi])
theorem AtL.extract {x : Operand} {i : Nat} {vs : Array Value} {v : Value} (hg : Wd X ops E g) (hd : Nat.blt d X.n = true) (hx : ev E x = some (.tuple vs)) (hi : vs[i]? = some v) (hk : AtL X ops os k ((d, v) :: E) ds H) :
    AtL X ops (⟨some d, .extract x i, ty, pos, after, g⟩ :: os) k E ds H :=
  AtL.ofIs (Do.extract hx hi) hg hd hk
/-- The values of operands. -/
def evs (E : Env) : List Operand → Option (List Value)
  | [] => some []
  | x :: xs => match ev E x with
    | some v => (evs E xs).map (v :: ·)
    | none => none
theorem evs_map {xs : List Operand} {vs : List Value} {ρ : Operand → Value} (hρ : ∀ x v, ev E x = some v → ρ x = v) (h : evs E xs = some vs) : xs.map ρ = vs := by
  induction xs generalizing vs with
  | nil => simpa [evs] using h
  | cons x xs ih =>
    simp only [evs] at h
    cases hx : ev E x with
    | none => rw [hx] at h; cases h
    | some v =>
      rw [hx] at h
      cases hr : evs E xs with
      | none => rw [hr] at h; cases h
      | some us =>
        rw [hr] at h
        simp only [Option.map_some, Option.some.injEq] at h
        subst h
        rw [List.map_cons, hρ _ _ hx, ih hr]
theorem evs_arr {xs : Array Operand} {vs : List Value} {ρ : Operand → Value} (hρ : ∀ x v, ev E x = some v → ρ x = v) (h : evs E xs.toList = some vs) : xs.map ρ = vs.toArray := by
  apply Array.ext'
  rw [Array.toList_map]
  exact evs_map hρ h
theorem Do.makeFunc {fn : Fn} {u c : Array Operand} {us cs : List Value} (hu : evs E u.toList = some us) (hc : evs E c.toList = some cs) : Does X E H (.makeFunc fn u c) (Is (.func fn us.toArray cs.toArray) H) :=
  Does.pureOp rfl (fun dst ty pos after g ρ w hρ => by simp [execOp, Instr.makeFunc, evs_arr hρ hu, evs_arr hρ hc])
theorem AtL.makeFunc {fn : Fn} {u c : Array Operand} {us cs : List Value} (hg : Wd X ops E g) (hd : Nat.blt d X.n = true) (hu : evs E u.toList = some us) (hc : evs E c.toList = some cs) (hk : AtL X ops os k ((d, .func fn us.toArray cs.toArray) :: E) ds H) :
    AtL X ops (⟨some d, .makeFunc fn u c, ty, pos, after, g⟩ :: os) k E ds H :=
  AtL.ofIs (Do.makeFunc hu hc) hg hd hk
theorem Do.makeIface {t : TypeId} {dd : TypeDesc} {x : Operand} {v : Value} (hu : X.P.underlying t = some dd) (hnd : (match dd with | .interface _ => false | _ => true) = true) (hx : ev E x = some v) : Does X E H (.makeInterface t x) (Is (.iface t v) H) :=
  Does.pureOp rfl (fun dst ty pos after g ρ w hρ => by cases dd <;> simp_all [execOp, hρ _ _ hx, Instr.makeInterface, run_underlying hu])
theorem AtL.makeIface {t : TypeId} {dd : TypeDesc} {x : Operand} {v : Value} (hu : X.P.underlying t = some dd) (hnd : (match dd with | .interface _ => false | _ => true) = true) (hg : Wd X ops E g) (hd : Nat.blt d X.n = true) (hx : ev E x = some v) (hk : AtL X ops os k ((d, .iface t v) :: E) ds H) :
    AtL X ops (⟨some d, .makeInterface t x, ty, pos, after, g⟩ :: os) k E ds H :=
  AtL.ofIs (Do.makeIface hu hnd hx) hg hd hk
theorem Do.convInt {src dst : TypeId} {sd : TypeDesc} {kk k2 : IntKind} {x : Operand} {a z : Int} (hs : X.P.underlying src = some sd) (hu : X.P.underlying dst = some (.int kk)) (hx : ev E x = some (.int k2 a)) (hz : kk.wrap a = z) : Does X E H (.convert src dst x) (Is (.int kk z) H) :=
  Does.pureOp rfl (fun dst ty pos after g ρ w hρ => by simp [execOp, hρ _ _ hx, convert, run_underlying hs, run_underlying hu, Conv.intToInt, hz])
theorem AtL.convInt {src dst : TypeId} {sd : TypeDesc} {kk k2 : IntKind} {x : Operand} {a z : Int} (hs : X.P.underlying src = some sd) (hu : X.P.underlying dst = some (.int kk)) (hg : Wd X ops E g) (hd : Nat.blt d X.n = true) (hx : ev E x = some (.int k2 a)) (hz : kk.wrap a = z)
    (hk : AtL X ops os k ((d, .int kk z) :: E) ds H) :
    AtL X ops (⟨some d, .convert src dst x, ty, pos, after, g⟩ :: os) k E ds H :=
  AtL.ofIs (Do.convInt hs hu hx hz) hg hd hk
theorem Do.convStr {src dst : TypeId} {x : Operand} {l : List UInt8} (hs : X.P.underlying src = some .string) (hu : X.P.underlying dst = some .string) (hx : ev E x = some (str l)) : Does X E H (.convert src dst x) (Is (str l) H) :=
  Does.pureOp rfl (fun dst ty pos after g ρ w hρ => by simp [str, execOp, hρ _ _ hx, convert, run_underlying hs, run_underlying hu])
theorem AtL.convStr {src dst : TypeId} {x : Operand} {l : List UInt8} (hs : X.P.underlying src = some .string) (hu : X.P.underlying dst = some .string) (hg : Wd X ops E g) (hd : Nat.blt d X.n = true) (hx : ev E x = some (str l))
    (hk : AtL X ops os k ((d, str l) :: E) ds H) :
    AtL X ops (⟨some d, .convert src dst x, ty, pos, after, g⟩ :: os) k E ds H :=
  AtL.ofIs (Do.convStr hs hu hx) hg hd hk
/-- A string's byte. -/
theorem Do.indexS {xt : TypeId} {x ix : Operand} {kk : IntKind} {l : List UInt8} {i : Int} (j : Nat) (hij : i = (j : Int)) (hj : j < l.length) (hu : X.P.underlying xt = some .string) (hx : ev E x = some (str l)) (hi : ev E ix = some (.int kk i)) : Does X E H (.index xt x ix) (Is (byt (l.getD j 0)) H) :=
  Does.pureOp rfl (fun dst ty pos after g ρ w hρ => by
    subst hij
    simp [str, execOp, hρ _ _ hx, hρ _ _ hi, Instr.index, asIntOf, run_underlying hu, ba_get l j hj, byt])
theorem AtL.indexS {xt : TypeId} {x ix : Operand} {kk : IntKind} {l : List UInt8} {i : Int} (j : Nat) (hij : i = (j : Int)) (hj : j < l.length) (hu : X.P.underlying xt = some .string) (hg : Wd X ops E g) (hd : Nat.blt d X.n = true) (hx : ev E x = some (str l)) (hi : ev E ix = some (.int kk i))
    (hk : AtL X ops os k ((d, byt (l.getD j 0)) :: E) ds H) :
    AtL X ops (⟨some d, .index xt x ix, ty, pos, after, g⟩ :: os) k E ds H :=
  AtL.ofIs (Do.indexS j hij hj hu hx hi) hg hd hk
/-- A part of a list. -/
def subl {α : Type} (l : List α) (i j : Nat) : List α := (l.drop i).take (j - i)
theorem subl_len {α : Type} {l : List α} {i j : Nat} (hj : j ≤ l.length) : (subl l i j).length = j - i := by simp [subl]; omega
/-- An operand that need not be there, a number. -/
def evBound (E : Env) : Option Operand → Nat → Nat → Prop
  | none, dflt, v => v = dflt
  | some x, _, v => ∃ kk z, ev E x = some (.int kk z) ∧ z = (v : Int)
theorem evBound_none {E : Env} {n : Nat} : evBound E none n n := rfl
theorem evBound_some {E : Env} {x : Operand} {kk : IntKind} {z : Int} {n v : Nat} (h : ev E x = some (.int kk z)) (hz : z = (v : Int)) : evBound E (some x) n v := ⟨kk, z, h, hz⟩
theorem Do.sliceS {xt : TypeId} {x : Operand} {lo hi : Option Operand} {l : List UInt8} (i j : Nat) (h1 : evBound E lo 0 i) (h2 : evBound E hi l.length j) (hij : i ≤ j) (hj : j ≤ l.length) (hu : X.P.underlying xt = some .string) (hx : ev E x = some (str l)) : Does X E H (.slice xt x lo hi none) (Is (str (subl l i j)) H) :=
  Does.pureOp rfl (fun dst ty pos after g ρ w hρ => by
    have e : (ByteArray.mk ⟨l⟩).extract i j = ByteArray.mk ⟨subl l i j⟩ := by
      apply ByteArray.ext
      simp [subl, List.drop_take, List.extract_eq_take_drop]
    have hb1 : (Instr.sliceBounds false l.length l.length (lo.map ρ) (hi.map ρ) none).run X.P w = .ok (i, j, l.length) w := by
      unfold Instr.sliceBounds
      cases lo with
      | none =>
        cases h1
        cases hi with
        | none => cases h2; simp
        | some y =>
          obtain ⟨k2, z2, e2, rfl⟩ := h2
          simp [hρ _ _ e2, Instr.sliceBound, asIntOf, hj]
      | some x1 =>
        obtain ⟨k1, z1, e1, rfl⟩ := h1
        cases hi with
        | none => cases h2; simp [hρ _ _ e1, Instr.sliceBound, asIntOf, hij]
        | some y =>
          obtain ⟨k2, z2, e2, rfl⟩ := h2
          simp [hρ _ _ e1, hρ _ _ e2, Instr.sliceBound, asIntOf, hij, hj]
    have hsz : (ByteArray.mk ⟨l⟩).size = l.length := rfl
    simp [str, execOp, hρ _ _ hx, Instr.sliceAt, Instr.slice, run_underlying hu, hsz, hb1, e])
theorem AtL.sliceS {xt : TypeId} {x : Operand} {lo hi : Option Operand} {l : List UInt8} (i j : Nat) (h1 : evBound E lo 0 i) (h2 : evBound E hi l.length j) (hij : i ≤ j) (hj : j ≤ l.length) (hu : X.P.underlying xt = some .string) (hg : Wd X ops E g) (hd : Nat.blt d X.n = true) (hx : ev E x = some (str l))
    (hk : AtL X ops os k ((d, str (subl l i j)) :: E) ds H) :
    AtL X ops (⟨some d, .slice xt x lo hi none, ty, pos, after, g⟩ :: os) k E ds H :=
  AtL.ofIs (Do.sliceS i j h1 h2 hij hj hu hx) hg hd hk
theorem Do.lenS {t : TypeId} {x : Operand} {l : List UInt8} (hu : X.P.underlying t = some .string) (hx : ev E x = some (str l)) : Does X E H (.call ⟨.builtin .len, #[x], #[t]⟩) (Is (int (l.length : Int)) H) :=
  Does.pureOp rfl (fun dst ty pos after g ρ w hρ => by simp [str, execOp, resolve, invoke, builtin, hρ _ _ hx, Builtin.len_, run_underlying hu, goInt, str_size])
theorem AtL.lenS {t : TypeId} {x : Operand} {l : List UInt8} (hu : X.P.underlying t = some .string) (hg : Wd X ops E g) (hd : Nat.blt d X.n = true) (hx : ev E x = some (str l)) (hk : AtL X ops os k ((d, int (l.length : Int)) :: E) ds H) :
    AtL X ops (⟨some d, .call ⟨.builtin .len, #[x], #[t]⟩, ty, pos, after, g⟩ :: os) k E ds H :=
  AtL.ofIs (Do.lenS hu hx) hg hd hk
theorem Do.lenA {t e : TypeId} {n : Nat} {x : Operand} {v : Value} (hu : X.P.underlying t = some (.array n e)) (hx : ev E x = some v) : Does X E H (.call ⟨.builtin .len, #[x], #[t]⟩) (Is (int (n : Int)) H) :=
  Does.pureOp rfl (fun dst ty pos after g ρ w hρ => by simp [execOp, resolve, invoke, builtin, hρ _ _ hx, Builtin.len_, run_underlying hu, goInt])
theorem AtL.lenA {t e : TypeId} {n : Nat} {x : Operand} {v : Value} (hu : X.P.underlying t = some (.array n e)) (hg : Wd X ops E g) (hd : Nat.blt d X.n = true) (hx : ev E x = some v) (hk : AtL X ops os k ((d, int (n : Int)) :: E) ds H) :
    AtL X ops (⟨some d, .call ⟨.builtin .len, #[x], #[t]⟩, ty, pos, after, g⟩ :: os) k E ds H :=
  AtL.ofIs (Do.lenA hu hx) hg hd hk
theorem Do.lenL {t e : TypeId} {x : Operand} {A : Option Addr} {n c : Nat} (hu : X.P.underlying t = some (.slice e)) (hx : ev E x = some (.slice A n c)) : Does X E H (.call ⟨.builtin .len, #[x], #[t]⟩) (Is (int (n : Int)) H) :=
  Does.pureOp rfl (fun dst ty pos after g ρ w hρ => by simp [execOp, resolve, invoke, builtin, hρ _ _ hx, Builtin.len_, run_underlying hu, goInt])
theorem AtL.lenL {t e : TypeId} {x : Operand} {A : Option Addr} {n c : Nat} (hu : X.P.underlying t = some (.slice e)) (hg : Wd X ops E g) (hd : Nat.blt d X.n = true) (hx : ev E x = some (.slice A n c)) (hk : AtL X ops os k ((d, int (n : Int)) :: E) ds H) :
    AtL X ops (⟨some d, .call ⟨.builtin .len, #[x], #[t]⟩, ty, pos, after, g⟩ :: os) k E ds H :=
  AtL.ofIs (Do.lenL hu hx) hg hd hk
theorem Do.capL {t e : TypeId} {x : Operand} {A : Option Addr} {n c : Nat} (hu : X.P.underlying t = some (.slice e)) (hx : ev E x = some (.slice A n c)) : Does X E H (.call ⟨.builtin .cap, #[x], #[t]⟩) (Is (int (c : Int)) H) :=
  Does.pureOp rfl (fun dst ty pos after g ρ w hρ => by simp [execOp, resolve, invoke, builtin, hρ _ _ hx, Builtin.cap_, run_underlying hu, goInt])
theorem AtL.capL {t e : TypeId} {x : Operand} {A : Option Addr} {n c : Nat} (hu : X.P.underlying t = some (.slice e)) (hg : Wd X ops E g) (hd : Nat.blt d X.n = true) (hx : ev E x = some (.slice A n c)) (hk : AtL X ops os k ((d, int (c : Int)) :: E) ds H) :
    AtL X ops (⟨some d, .call ⟨.builtin .cap, #[x], #[t]⟩, ty, pos, after, g⟩ :: os) k E ds H :=
  AtL.ofIs (Do.capL hu hx) hg hd hk
theorem Do.min2 {ts : Array TypeId} {x y : Operand} {kk : IntKind} {a b : Int} (hx : ev E x = some (.int kk a)) (hy : ev E y = some (.int kk b)) : Does X E H (.call ⟨.builtin .min, #[x, y], ts⟩) (Is (.int kk (if b < a then b else a)) H) :=
  Does.pureOp rfl (fun dst ty pos after g ρ w hρ => by simp [execOp, resolve, invoke, builtin, hρ _ _ hx, hρ _ _ hy, Builtin.min_, Builtin.min2, List.foldlM])
theorem AtL.min2 {ts : Array TypeId} {x y : Operand} {kk : IntKind} {a b : Int} (hg : Wd X ops E g) (hd : Nat.blt d X.n = true) (hx : ev E x = some (.int kk a)) (hy : ev E y = some (.int kk b)) (hk : AtL X ops os k ((d, .int kk (if b < a then b else a)) :: E) ds H) :
    AtL X ops (⟨some d, .call ⟨.builtin .min, #[x, y], ts⟩, ty, pos, after, g⟩ :: os) k E ds H :=
  AtL.ofIs (Do.min2 hx hy) hg hd hk
theorem Do.max2 {ts : Array TypeId} {x y : Operand} {kk : IntKind} {a b : Int} (hx : ev E x = some (.int kk a)) (hy : ev E y = some (.int kk b)) : Does X E H (.call ⟨.builtin .max, #[x, y], ts⟩) (Is (.int kk (if a < b then b else a)) H) :=
  Does.pureOp rfl (fun dst ty pos after g ρ w hρ => by simp [execOp, resolve, invoke, builtin, hρ _ _ hx, hρ _ _ hy, Builtin.max_, Builtin.max2, List.foldlM])
theorem AtL.max2 {ts : Array TypeId} {x y : Operand} {kk : IntKind} {a b : Int} (hg : Wd X ops E g) (hd : Nat.blt d X.n = true) (hx : ev E x = some (.int kk a)) (hy : ev E y = some (.int kk b)) (hk : AtL X ops os k ((d, .int kk (if a < b then b else a)) :: E) ds H) :
    AtL X ops (⟨some d, .call ⟨.builtin .max, #[x, y], ts⟩, ty, pos, after, g⟩ :: os) k E ds H :=
  AtL.ofIs (Do.max2 hx hy) hg hd hk
/-- A function of the program that has a body. -/
structure Body (P : Program) (f : FuncId) : Prop where
  is : ∃ fn, P.funcs[f]? = some fn ∧ (fn.name == "runtime.NumGoroutine") = false ∧ fn.body.isNone = false
theorem body_run {P : Program} {f : FuncId} (h : Body P f) (args : Array Value) (w : World) : (callFunc f args).run P w = .ok (.enter f args) w := by
  obtain ⟨fn, h1, h2, h3⟩ := h.is
  cases hb : fn.body with
  | none => rw [hb] at h3; cases h3
  | some c => simp only [callFunc, Sem.run_bind, run_program, Result.andThen_ok, h1, h2, hb, Option.isNone_some, Bool.false_eq_true, if_false, Sem.run_pure]
def bodyB (P : Program) (f : FuncId) : Bool := match P.funcs[f]? with
  | some fn => !(fn.name == "runtime.NumGoroutine") && !fn.body.isNone
  | none => false
theorem Body.of {P : Program} {f : FuncId} (h : bodyB P f = true) : Body P f := by
  unfold bodyB at h
  split at h
  · rename_i fn hf
    simp only [Bool.and_eq_true, Bool.not_eq_true'] at h
    exact ⟨fn, hf, h.1, h.2⟩
  · cases h
section calls
variable {dst : Option Tmp} {R : Value → List Seg → Prop}
/-- A call of a function by its name. -/
theorem Do.call {f : FuncId} {xs : Array Operand} {ts : Array TypeId} {args : List Value} (hb : Body X.P f) (hx : evs E xs.toList = some args) (hc : SCalls X.P f args X.w0 X.base H R) : Does X E H (.call ⟨.value (.func f), xs, ts⟩) R :=
  Does.enter rfl (fun dst ty pos after g ρ w hρ => by
    have hf : ρ (.func f) = .func (.func f) #[] #[] := hρ _ _ rfl
    simp [execOp, resolve, hf, Deferred.ofValue, evs_arr hρ hx, invoke, body_run hb]) hc
theorem AtL.call {f : FuncId} {xs : Array Operand} {ts : Array TypeId} {args : List Value} (hb : Body X.P f) (hg : Wd X ops E g) (hd : dstOk X.n dst = true) (hx : evs E xs.toList = some args) (hc : SCalls X.P f args X.w0 X.base H R)
    (hk : ∀ v H', R v H' → AtL X ops os k (putE E dst v) ds H') :
    AtL X ops (⟨dst, .call ⟨.value (.func f), xs, ts⟩, ty, pos, after, g⟩ :: os) k E ds H :=
  AtL.of (Do.call hb hx hc) hg hd hk
/-- A call of a function value: what it captured comes behind. -/
theorem Do.callV {f : FuncId} {x : Operand} {u c : Array Value} {xs : Array Operand} {ts : Array TypeId} {args args' : List Value} (hb : Body X.P f) (hv : ev E x = some (.func (.func f) u c)) (hx : evs E xs.toList = some args) (ha : u.toList ++ args ++ c.toList = args') (hc : SCalls X.P f args' X.w0 X.base H R) : Does X E H (.call ⟨.value x, xs, ts⟩) R :=
  Does.enter rfl (fun dst ty pos after g ρ w hρ => by
    subst ha
    have e : u ++ args.toArray ++ c = (u.toList ++ args ++ c.toList).toArray := by
      apply Array.ext'
      simp
    simp only [List.append_assoc] at e ⊢
    simp [execOp, resolve, hρ _ _ hv, Deferred.ofValue, evs_arr hρ hx, invoke, body_run hb]) hc
theorem AtL.callV {f : FuncId} {x : Operand} {u c : Array Value} {xs : Array Operand} {ts : Array TypeId} {args args' : List Value} (hb : Body X.P f) (hg : Wd X ops E g) (hd : dstOk X.n dst = true) (hv : ev E x = some (.func (.func f) u c)) (hx : evs E xs.toList = some args)
    (ha : u.toList ++ args ++ c.toList = args') (hc : SCalls X.P f args' X.w0 X.base H R)
    (hk : ∀ v H', R v H' → AtL X ops os k (putE E dst v) ds H') :
    AtL X ops (⟨dst, .call ⟨.value x, xs, ts⟩, ty, pos, after, g⟩ :: os) k E ds H :=
  AtL.of (Do.callV hb hv hx ha hc) hg hd hk
/-- A call of a method of an interface value. -/
theorem Do.callI {nm : String} {x : Operand} {t : TypeId} {u r : Value} {f : FuncId} {xs : Array Operand} {ts : Array TypeId} {args : List Value} (hb : Body X.P f) (hv : ev E x = some (.iface t u)) (hx : evs E xs.toList = some args) (hm : ∀ w, (method (X.P.types.size + Made.depth) t u nm).run X.P w = .ok (f, r) w) (hc : SCalls X.P f (r :: args) X.w0 X.base H R) : Does X E H (.call ⟨.invoke x nm, xs, ts⟩) R :=
  Does.enter rfl (fun dst ty pos after g ρ w hρ => by
    have e : (#[r] ++ args.toArray : Array Value) = (r :: args).toArray := by
      apply Array.ext'
      simp
    have e2 : (#[Value.iface t u] ++ args.toArray).extract 1 (1 + args.length) = args.toArray := by
      apply Array.ext'
      simp [List.extract_eq_take_drop, Nat.add_comm]
    simp [execOp, resolve, hρ _ _ hv, evs_arr hρ hx, invoke, callMethod, hm, body_run hb]
    try exact e) hc
theorem AtL.callI {nm : String} {x : Operand} {t : TypeId} {u r : Value} {f : FuncId} {xs : Array Operand} {ts : Array TypeId} {args : List Value} (hb : Body X.P f) (hg : Wd X ops E g) (hd : dstOk X.n dst = true) (hv : ev E x = some (.iface t u)) (hx : evs E xs.toList = some args)
    (hm : ∀ w, (method (X.P.types.size + Made.depth) t u nm).run X.P w = .ok (f, r) w) (hc : SCalls X.P f (r :: args) X.w0 X.base H R)
    (hk : ∀ v H', R v H' → AtL X ops os k (putE E dst v) ds H') :
    AtL X ops (⟨dst, .call ⟨.invoke x nm, xs, ts⟩, ty, pos, after, g⟩ :: os) k E ds H :=
  AtL.of (Do.callI hb hv hx hm hc) hg hd hk
/-- A call of a method value of an interface value. -/
theorem Do.callM {nm : String} {x : Operand} {t : TypeId} {u r : Value} {f : FuncId} {xs : Array Operand} {ts : Array TypeId} {args : List Value} (hb : Body X.P f) (hv : ev E x = some (.func (.method nm) #[.iface t u] #[])) (hx : evs E xs.toList = some args) (hm : ∀ w, (method (X.P.types.size + Made.depth) t u nm).run X.P w = .ok (f, r) w) (hc : SCalls X.P f (r :: args) X.w0 X.base H R) : Does X E H (.call ⟨.value x, xs, ts⟩) R :=
  Does.enter rfl (fun dst ty pos after g ρ w hρ => by
    have e : (#[r] ++ args.toArray : Array Value) = (r :: args).toArray := by
      apply Array.ext'
      simp
    simp [execOp, resolve, Deferred.ofValue, hρ _ _ hv, evs_arr hρ hx, invoke, callMethod, hm, body_run hb]
    try exact e) hc
theorem AtL.callM {nm : String} {x : Operand} {t : TypeId} {u r : Value} {f : FuncId} {xs : Array Operand} {ts : Array TypeId} {args : List Value} (hb : Body X.P f) (hg : Wd X ops E g) (hd : dstOk X.n dst = true) (hv : ev E x = some (.func (.method nm) #[.iface t u] #[])) (hx : evs E xs.toList = some args)
    (hm : ∀ w, (method (X.P.types.size + Made.depth) t u nm).run X.P w = .ok (f, r) w) (hc : SCalls X.P f (r :: args) X.w0 X.base H R)
    (hk : ∀ v H', R v H' → AtL X ops os k (putE E dst v) ds H') :
    AtL X ops (⟨dst, .call ⟨.value x, xs, ts⟩, ty, pos, after, g⟩ :: os) k E ds H :=
  AtL.of (Do.callM hb hv hx hm hc) hg hd hk
end calls
end
end Go.Proofs.YtlkdmbpbjhjkfaaGreatDoor
