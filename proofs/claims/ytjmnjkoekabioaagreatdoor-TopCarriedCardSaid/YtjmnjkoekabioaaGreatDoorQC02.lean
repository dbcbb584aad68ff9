/- Parts of the proof. -/
import Derived.Test.YtjmnjkoekabioaaGreatDoorChecked
import Derived.WalkKit
import GoSem.ClaimDataLaid
import Derived.MakeChecks
import Derived.Test.YtjmnjkoekabioaaGreatDoorRows
import Derived.SizedLaws
import Derived.Test.YtjmnjkoekabioaaGreatDoorCards
import Derived.LaidMore
import Derived.LaidOnce
import Derived.Lay
import Derived.SevenTiedAt
import Derived.Stop.Joined
import Derived.ProofKit
import Derived.OpenShut
import Derived.ShutString
import Derived.ChangeOld
import Derived.Below
import Derived.Deep.Slices
import Derived.ChangeArms
import Derived.ChangeShapes
import Derived.WideShapes
import Derived.ChangeMaps5
import Derived.RowKit
import Derived.HandedShaped
import Derived.Shelf.Vars
import Derived.Calls
import Derived.Deep.Draws
import Derived.IntWalk
import Derived.WalkSpells
import Derived.WalkLawsBesides
import Derived.Laws.Cells
import Derived.Laws.CopyRow
import Derived.Laws.AppendOwn
import Derived.Laws.Append
import Derived.Laws.IdiomStrings
import Derived.Laws.BytesArg
import Derived.Laws.MakeOwn
import Derived.Orders
import Derived.Test.YtjmnjkoekabioaaGreatDoorProg
import Derived.Lib.Bytealg
import Derived.Lib.DecodeN
import Derived.Lib.Split
import Derived.Lib.Index
import Derived.Lib.SlTrimSet
import Derived.Lib.Atoi
import Derived.Shelf.Strings.Builder1
import Derived.Shelf.Strings.Builder2
import Derived.Shelf.Strings.Trim
import Derived.Shelf.Small.Utf8
import Derived.Shelf.Small.Strs
import Derived.Shelf.Small.Wraps
import Derived.Shelf.Strconv.Atoi
import Derived.Shelf.Strconv.Itoa0
import Derived.Shelf.Strconv.Itoa1
import Derived.Shelf.LaysM
import Derived.Shelf.Strconv.Itoa2
import Derived.Shelf.Strconv.Itoa3
import Derived.Shelf.Strconv.AtoiErrFast
import Derived.Shelf.Strconv.ParseIntEmpty
import Derived.Shelf.Strconv.AtoiFail
import Derived.Shelf.Strconv.Clone
import Derived.Shelf.Strconv.SyntaxError
import Derived.Shelf.LaysC
import Derived.Shelf.Strconv.ToError
import Derived.Shelf.Strconv.Lower
import Derived.Shelf.Strconv.ParseUint10
import Derived.Shelf.Strconv.ParseUint10Empty
import Derived.Shelf.Strconv.ParseUint10Any
import Derived.Shelf.Strconv.ParseInt10
import Derived.Shelf.Strconv.AtoiLong
import Derived.Shelf.Strconv.AtoiInnerAll
import Derived.Shelf.Strconv.RangeError
import Derived.Shelf.Strconv.ToErrorRange
import Derived.Shelf.Strconv.AtoiAll
import Derived.Shelf.Strings.Search1
import Derived.Shelf.Strings.Search2
import Derived.Shelf.Strings.Search3
import Derived.Shelf.Strings.Cut
import Derived.Shelf.Strings.Count
import Derived.Shelf.Strings.Shaped
import Derived.Shelf.Strings.Prefix
import Derived.Shelf.Strings.Split
import Derived.Shelf.Strings.SplitShaped
import Derived.Shelf.Strings.Runes
import Derived.Shelf.Strings.AsciiSet
import Derived.Shelf.Bits.Mul64
import Derived.Shelf.Unicode.DecodeSlow
import Derived.Shelf.Bytes.SlIndexSmall
import Derived.Shelf.Bytes.SlIndexAt
import Derived.Shelf.Bytes.SlSearch0
import Derived.Shelf.Bytes.SlSearch1
import Derived.Shelf.Bytes.SlSearch2
import Derived.Shelf.Bytes.SlIndexWhole
import Derived.Shelf.Bytes.Small
import Derived.Shelf.Bytes.IndexByte
import Derived.Lib.IndexMore
import Derived.Shelf.Strings.SlTrimAscii
import Derived.Lib.Builder
import Derived.Lib.UnsafeStr
import Derived.Lib.ItoaNum
import Derived.Lib.AtoiTie
import Derived.Lib.AtoiAllCases
import Derived.Lib.SplitLaws
import Derived.Laws.Sem
import Derived.Laws.StructEq
import Derived.ChangeKeysEq
import Derived.Laws.Externs
import Derived.Lib.LaidU8T
import Derived.Lib.LaidTab
import Derived.LaidLaws
import Derived.Shaped
import GoSem.ClaimGoes
import Derived.LaidByTextLater
namespace Go.Proofs.YtjmnjkoekabioaaGreatDoor
theorem kQ {p:Prop}(h:p:=by omega):p:=h
theorem kW {p:Prop}(h:p:=by kernel_rfl):p:=h
theorem kE {p:Prop}(h:p:=by decide):p:=h
theorem kT {p:Prop}(h:p:=by first | decide | simp):p:=h
theorem kY {p:Prop}(h:p:=by simp):p:=h
theorem kI {p:Prop}(h:p:=by first | decide | rfl):p:=h
theorem kO {p:Prop}(h:p:=by first | omega | (dsimp only; omega)):p:=h
theorem kP {p:Prop}(h:p:=by simp; omega):p:=h
set_option maxHeartbeats 400000
open Go.RowKit (Below)
set_option linter.unusedVariables false
set_option linter.unusedSimpArgs false
open Go.WideShapes Go.ChangeShapes
set_option linter.defProp false
theorem Z {α:Sort _}{a:α}:a=a:=rfl
abbrev vV (n:Int):Value:=.int .i64 n
abbrev pB (b:Nat):Value:=.pointer (some ⟨b,0,none⟩)
abbrev yB:=List UInt8
abbrev rD5:yB×Int×Int×Int×yB:=([],0,0,0,[])
abbrev rD3:yB×Int×Int:=([],0,0)
abbrev rDb:Int×Bool×Bool:=(0,false,false)
def zC6:=@List.length_append
def zC7:=@List.length_cons
def zC8:=@List.length_nil
def zC9:=@Bool.and_eq_true
def zDa:=@List.all_eq_true
def zDf:=@of_decide_eq_true
def zDc:=@List.take_of_length_le
def zDb:=@if_neg
def zDd:=@List.mem_iff_getElem?
def zDg:=@List.append_assoc
def zDe:=@Nat.le_refl
def zDm:=@of_decide_eq_false
def zDh:=@congrArg
def zDj:=@List.prefix_refl
def zDl:=@decide_eq_false
def zDi:=@if_pos
def zDk:=@List.eq_nil_of_length_eq_zero
def zDn:=@List.drop_eq_nil_of_le
def zDq:=@Nat.zero_le
def zDu:=@Array.getD_eq_getD_getElem?
def zDp:=@List.mem_cons
def zDo:=@List.map_cons
def zDv:=@List.getElem?_eq_some_iff
def zDr:=@List.cons_append
def zDw:=@Bool.or_eq_true
def zDz:=@List.getElem?_cons_succ
def zDy:=@Bool.false_eq_true
def zDs:=@List.length_take
def zDC:=@List.mem_map
def zDD:=@Nat.mul_le_mul_right
def zDB:=@List.take_append_drop
def zDA:=@List.take_succ_eq_append_getElem
def zDE:=@Array.getElem?_toList
def zDt:=@List.mem_append
def zDF:=@List.mem_cons_of_mem
def zDI:=@decide_eq_true
def zDJ:=@List.getElem?_eq_getElem
def zDG:=@List.nil_append
def zDK:=@List.length_drop
def zDP:=@List.any_eq_true
def zDH:=@List.mem_cons_self
def zDR:=@List.prefix_append
def zDT:=@Nat.le_of_ble_eq_true
def zDV:=@List.ext_getElem?
def zDQ:=@Bool.not_eq_true'
def zDU:=@if_false
def zDM:=@Option.some.inj
def zDW:=@Array.getElem?_eq_some_iff
def zDX:=@List.getElem?_cons_zero
def zDZ:=@Nat.add_zero
def zDS:=@List.drop_append_of_le_length
def zD1:=@List.mem_range
def zDN:=@Option.map_some
def zD2:=@List.cons.injEq
def zD3:=@Nat.add_assoc
def zD5:=@Array.ext'
def zD6:=@Nat.eq_of_beq_eq_true
def zD7:=@decide_eq_true_eq
def zDY:=@decide_eq_false_iff_not
def zDx:=@List.mem_singleton
def zDL:=@List.map_append
def zD4:=@List.length_map
def zD9:=@List.mem_flatten
def zD0:=@List.take_append_of_le_length
def zEb:=@List.flatten_cons
def zEh:=@List.reverse_nil
def zEi:=@Nat.zero_add
def zEj:=@List.drop_drop
def zEk:=@Nat.add_mul
def zDO:=@List.append_nil
def zEn:=@List.getElem?_toArray
def zEg:=@Option.getD_some
def zEm:=@if_true
def zEq:=@Bool.or_eq_false_iff
def zEr:=@List.mem_of_mem_take
def zEl:=@Nat.min_eq_left
def zEu:=@Array.length_toList
def zEv:=@Nat.le_trans
def zEw:=@Nat.lt_or_ge
def zEx:=@Array.getElem?_append_left
def zEy:=@List.getElem?_append_right
def zEz:=@Bool.or_false
def zEA:=@List.take_left
def zEB:=@List.singleton_append
def zEe:=@List.length_replicate
def zEC:=@List.extract_eq_take_drop
def zEa:=@List.getElem?_append_left
def zED:=@Array.getElem?_eq_getElem
def zEE:=@Nat.mod_lt
def zEs:=@List.mem_filter
def zEt:=@Bool.eq_iff_iff
def zEp:=@List.mem_append_left
def zEF:=@Nat.div_add_mod
def zEG:=@List.any_append
def zEH:=@Option.some.injEq
def zEI:=@List.size_toArray
def zEJ:=@Int.toNat_natCast
def zEK:=@Nat.add_sub_cancel_left
def zEM:=@decide_eq_decide
def zEN:=@List.Perm.append_right
def zEo:=@List.getElem?_drop
def zEO:=@Nat.eq_zero_or_pos
def zEf:=@List.getElem?_take
def zEQ:=@List.getElem?_eq_none
def zES:=@Array.mapM_eq_mapM_toList
def zET:=@List.getElem?_eq_none_iff
def zEU:=@List.mem_of_mem_drop
def zEV:=@List.mem_of_getElem?
def zEX:=@Bool.false_and
def zEd:=@List.map_nil
def zEY:=@Array.toList_map
def zEZ:=@List.length_filter_eq_length_iff
def zE0:=@UInt8.toNat_ofNat_of_lt'
def zE1:=@Nat.mul_comm
def zE2:=@Nat.pow_succ
def zE3:=@List.length_pos_iff
def zE5:=@List.nodup_cons
def zE6:=@Int.emod_nonneg
def zE7:=@Int.emod_lt_of_pos
def zE8:=@Option.map_none
def zEc:=@List.getElem?_map
def zER:=@List.filter_congr
def zEW:=@List.mapM_cons
def zFa:=@Bool.and_eq_false_iff
def zFb:=@Ne.symm
def zFc:=@Bool.and_false
def zFd:=@List.perm_append_comm
def zFe:=@List.drop_zero
def zFf:=@List.ext_getElem
def zFg:=@List.drop_append
def zEL:=@List.filter_cons
def zFh:=@Option.bind_some
def zFi:=@List.cons_ne_nil
def zFj:=@List.all_cons
def zFl:=@Nat.le_of_mul_le_mul_right
def zFn:=@List.dropWhile_cons
def zEP:=@List.all_append
def zFo:=@List.pairwise_iff_getElem
def zFp:=@Nat.sub_zero
def zFq:=@Array.getElem?_replicate
def zFr:=@List.take_zero
def zFs:=@Int.negSucc_eq
def zFt:=@Nat.le_mul_of_pos_right
def zFu:=@List.eraseIdx_cons_succ
def zE9:=@List.nodup_append
def zFw:=@List.reverse_cons
def zFx:=@List.any_eq_false
def zFy:=@List.set_eq_take_append_cons_drop
def zFz:=@Bool.not_true
def zFA:=@List.take_append
def zFB:=@Array.all_eq_true_iff_forall_mem
def zFC:=@Nat.le_add_right
def zFE:=@UInt8.toNat_inj
def zFF:=@List.replicate_succ
def zFm:=@List.take_succ_cons
def zE4:=@List.drop_succ_cons
def zFH:=@Array.toList_filter
def zFI:=@List.drop_take
def zFJ:=@List.drop_left
def zFK:=@Array.getElem?_setIfInBounds
def zFL:=@Nat.lt_of_lt_of_le
def zFN:=@Option.isSome_none
def zFO:=@List.filter_filter
def zFP:=@decide_eq_true_iff
def zFQ:=@ByteArray.ext
def zFR:=@Array.toList_setIfInBounds
def zFS:=@Bool.false_or
def zFT:=@List.cons.inj
def zFU:=@Bool.true_and
def zFV:=@Bool.and_true
def zFW:=@Nat.mod_two_eq_zero_or_one
def zFX:=@Nat.mod_mul_right_div_self
def zFY:=@Nat.lt_trichotomy
def zFZ:=@List.push_toArray
def zF0:=@UInt8.ofNat_toNat
def zF1:=@Array.toList_push
def zF2:=@List.drop_eq_getElem_cons
def zF3:=@map_eq_pure_bind
def zF4:=@List.getElem_set
def zF5:=@List.take_length
def zF6:=@Nat.sub_self
def zF7:=@List.nodup_range
def zF8:=@List.map_map
def zF9:=@Int.tmod_eq_emod
def zGa:=@Decidable.em
def zFD:=@List.not_mem_nil
def zGb:=@not_or
def zGe:=@Option.bind_none
def zGf:=@Classical.axiomOfChoice
def zGg:=@List.length_set
def zGi:=@List.append_inj
def zGj:=@List.filter_eq_nil_iff
def zGk:=@Nat.div_div_eq_div_mul
def zGl:=@Nat.one_mul
def zGm:=@Nat.mul_one
def zGo:=@List.nodup_nil
def zGq:=@Nat.mul_le_mul
def zGs:=@beq_iff_eq
def zFk:=@List.sum_cons
def zFG:=@beq_eq_false_iff_ne
def zGr:=@or_false
def zGh:=@BitVec.toNat_or
def zGp:=@Option.or_none
def zD8:=@List.getD_eq_getElem?_getD
def zGc:=@List.sum_nil
def zFM:=@Array.foldl_toList
def zFv:=@List.flatMap_cons
def zGn:=@List.take_take
variable {p:Addr}{ps:Array (Nat×Operand)}{ms:Array (String×TypeId)}{after:Array Edge}{fs:Array Field}{ops:Array Oper}{xs:Array Operand}{params:Array Tmp}{ts:Array TypeId}{cs u:Array Value}{body:Code}{fn:Func}{f:FuncId}{a z:Int}{k2 kk:IntKind}{pl:List (Nat×Nat)}{ds:List Deferred}{k k':List Item}{is:List Nat}{os:List Oper}{rs:List ResultVar}{news:yB}{args' us vs:List Value}{L:Loop}{G:Machine→Prop}{C C2 b base by_ c d i id j l m n r sz:Nat}{spare:Nat→Bool}{o':Obj}{op:Op}{o:Oper}{ix x y:Operand}{ρ:Operand→Value}{g:Option (Nat×Bool)}{A A2:Option Addr}{hi lo:Option Operand}{P:Program}{α β γ δ ε:Type}{dst e src t t2 tx ty tz xt:TypeId}{w w' w0:World}
abbrev Env:=List (Nat×Value)
variable {E E' E0 val:Env}
def Env.get:Env→Nat→Option Value
 | [],_ => none
 | p::E,t => match Nat.beq p.1 t with
  | true => some p.2
  | false => Env.get E t
def ev (E:Env):Operand→Option Value
 | .tmp t => Env.get E t
 | .const v => some v
 | .global g => some (.pointer (some ⟨g,0,none⟩))
 | .func f => some (.func (.func f) #[] #[])
def evA (a:Array Value):Operand→Value
 | .tmp t => a.getD t undef
 | .const v => v
 | .global g => .pointer (some ⟨g,0,none⟩)
 | .func f => .func (.func f) #[] #[]
structure Agree (n:Nat) (a:Array Value) (E:Env):Prop where
  size:a.size=n
  get:∀ t v,Env.get E t=some v→a.getD t undef=v
def Sub:Env→Env→Prop
 | [],_ => True
 | (t,v)::L,E => Env.get E t=some v∧Sub L E
def putA (a:Array Value):Option Tmp→Value→Array Value
 | some d,v => a.setIfInBounds d v
 | none,_ => a
def putE (E:Env):Option Tmp→Value→Env
 | some d,v => (d,v)::E
 | none,_ => E
def zcq (n:Nat):Option Tmp→Bool
 | some d => Nat.blt d n
 | none => true
theorem zdr (h:Nat.blt d n=true):d < n:=zDT h
theorem zbh {t:Nat}(h:d≠t):Nat.beq d t=false:=by
 grind [Nat.beq,absurd,Nat.eq_of_beq_eq_true]
theorem Agree.put {a:Array Value}(h:Agree n a E) {d:Option Tmp}(hd:zcq n d=true) (v:Value):Agree n (putA a d v) (putE E d v):=by
 cases d with
 | none => exact h
 | some d =>
  have hlt:d < n:=zdr hd
  refine ⟨by simp [putA,h.size],fun t u hu => ?_⟩
  simp only [putE,Env.get] at hu
  by_cases e:d=t
  ·subst e
   simp at hu
   subst hu
   simp [putA,zDu,h.size,hlt]
  ·have:Nat.beq d t=false:=zbh e
   rw [this] at hu
   have:=h.get t u hu
   rw [← this]
   simp only [putA,zDu]
   grind
theorem Agree.ev {a:Array Value}(h:Agree n a E) {v:Value}(hx:ev E x=some v):evA a x=v:=by
 cases x with
 | tmp t => exact h.get t v hx
 | const u => exact zDM hx
 | global g => exact zDM hx
 | func f => exact zDM hx
theorem Agree.sub {a:Array Value}{L:Env}(h:Agree n a E) (hs:Sub L E):Agree n a L:=by
 refine ⟨h.size,?_⟩
 induction L with
 | nil => grind [Env.get]
 | cons p L ih =>
  obtain ⟨t0,v0⟩:=p
  obtain ⟨h1,h2⟩:=hs
  intro t v hv
  simp only [Env.get] at hv
  by_cases e:t0=t
  ·subst e
   simp at hv
   subst hv
   exact h.get t0 v0 h1
  grind [Nat.beq,zbh]
abbrev Seg:=List (Nat×Obj)
abbrev O0 (e0:Nat)(e1:Int)(e2:Bool)(e3:Option Addr)(e4:Nat)(e5:Nat)(e6:Int)(e7:Int)(e8:Int):Seg:=[(e0,.cells #[vV e1,.bool e2,.slice e3 e4 e5,vV e6,.int .i8 e7,vV e8] 101 (0,0))]
abbrev O1 (e0:Nat)(e1:Int)(e2:Int)(e3:Option Addr)(e4:Nat)(e5:Nat)(e6:Option Addr)(e7:Nat)(e8:Nat)(e9:Option Addr)(e10:Nat)(e11:Nat)(e12:Option Addr)(e13:Nat)(e14:Nat):Seg:=[(e0,.cells #[vV e1,vV e2,.slice e3 e4 e5,.slice e6 e7 e8,.slice e9 e10 e11,.slice e12 e13 e14] 25 (0,0))]
abbrev O2 (e0:Nat)(e1:Option Addr)(e2:Nat)(e3:Nat)(e4:Int)(e5:Int)(e6:Int):Seg:=[(e0,.cells #[.slice e1 e2 e3,vV e4,vV e5,vV e6] 183 (0,0))]
abbrev O3 (e0:Nat)(e1:Nat)(e2:Int):Seg:=[(e0,.cells #[.map (some e1),vV e2] 280 (0,0))]
abbrev O4 (e0:Nat)(e1:Int)(e2:Int):Seg:=[(e0,.cells #[vV e1,vV e2] 35 (0,0))]
abbrev O5 (e0:Nat)(e1:Value)(e2:Int)(e3:Int)(e4:Int)(e5:Value):Seg:=[(e0,.cells #[e1,vV e2,vV e3,vV e4,e5] 51 (0,0))]
abbrev O6 (e0:Nat)(e1:Int)(e2:Bool)(e3:Bool):Seg:=[(e0,.cells #[vV e1,.bool e2,.bool e3] 335 (0,0))]
abbrev O7 (e0:Nat)(e1:Option Addr)(e2:Nat)(e3:Nat):Seg:=[(e0,.cells #[.slice e1 e2 e3] 171 (0,0))]
abbrev O8 (e0:Nat)(e1:Nat):Seg:=[(e0,.cells #[pB e1] 40 (0,0))]
abbrev O9 (e0:Nat)(e1:Int):Seg:=[(e0,.cells #[vV e1] 28 (0,0))]
variable {R R':Value→List Seg→Prop}
variable {s s':Seg}
variable {H H':List Seg}
structure Sep (w0:World) (base:Nat) (w:World) (H:List Seg):Prop where
  below:Below base w0 w
  le:base≤w0.heap.size
  mem:∀ p ∈ H.flatten,base≤p.1∧w.heap[p.1]? = some p.2
  nodup:(H.flatten.map (·.1)).Nodup
section
variable {w0:World}{base:Nat}{w w' : World}{H:List Seg}
theorem zm4 (w:World):Sep w w.heap.size w []:=⟨Below.refl _ _,zDe _,by simp,by simp⟩
theorem Sep.base_le (S:Sep w0 base w H):base≤w.heap.size:=zEv S.le S.below.size
theorem Sep.same (S:Sep w0 base w H) (h:w'.heap=w.heap) (ho:w'.os=w.os) (ht:w'.tape=w.tape) (hp:w'.output=w.output):Sep w0 base w' H :=
 ⟨⟨ho.trans S.below.os,ht.trans S.below.tape,hp.trans S.below.output,by rw [h]; exact S.below.size,fun k hk => by rw [h]; exact S.below.block k hk⟩,S.le,fun p hp => by rw [h]; exact S.mem p hp,S.nodup⟩
theorem Sep.drawn (S:Sep w0 base w H) (n:Nat):Sep w0 base { w with drawn:=n } H:=S.same rfl rfl rfl rfl
theorem Sep.lt (S:Sep w0 base w H) {p:Nat×Obj}(hp:p ∈ H.flatten):p.1 < w.heap.size:=(zDW.1 (S.mem p hp).2).1
theorem Sep.alloc (S:Sep w0 base w H) (o:Obj):Sep w0 base (w.alloc o) ([(w.heap.size,o)]::H):=by
 refine ⟨S.below.alloc S.base_le o,S.le,?_,?_⟩
 ·intro p hp
  rw [zEb,zDt] at hp
  rcases hp with hp | hp
  ·simp only [zDx] at hp
   subst hp
   exact ⟨S.base_le,by show (w.heap.push o)[w.heap.size]? = _; simp⟩
  ·refine ⟨(S.mem p hp).1,?_⟩
   rw [Below.heap_alloc w o p.1 (S.lt hp)]
   exact (S.mem p hp).2
 ·rw [zEb,zDL,zE9]
  refine ⟨by simp,S.nodup,?_⟩
  intro a ha b hb e
  simp only [zDo,zEd,zDx] at ha
  obtain ⟨p,hp,rfl⟩:=zDC.1 hb
  have:=S.lt hp
  omega
theorem Sep.nil (S:Sep w0 base w H):Sep w0 base w ([]::H):=⟨S.below,S.le,by simpa using S.mem,by simpa using S.nodup⟩
theorem zfC {p:Nat×Obj}(hp:p ∈ (H.set i s').flatten):p ∈ s'∨(∃ j,j≠i∧∃ r,H[j]? = some r∧p ∈ r):=by
 grind [List.mem_flatten,List.mem_iff_getElem?]
end
theorem zwj {o:Obj}(hj:s[j]? = some (b,o)):(s.set j (b,o')).map (·.1)=s.map (·.1):=by
 apply zDV
 grind
theorem zln (hi:H[i]? = some s) (hk:s'.map (·.1)=s.map (·.1)):(H.set i s').flatten.map (·.1)=H.flatten.map (·.1):=by
 rw [List.map_flatten,List.map_flatten]
 congr 1
 apply zDV
 grind
theorem zeV (hn:(H.flatten.map (·.1)).Nodup) {o:Obj}(hi:H[i]? = some s) (hj:s[j]? = some (b,o)) {i' : Nat} 
  (hi' : H[i']? = some s') (hm:(b,o') ∈ s'):i' = i∧(∀ j',s'[j']? = some (b,o')→j' = j):=by
 induction H generalizing i i' with
 | nil => grind
 | cons t H ih =>
  rw [zEb,zDL,zE9] at hn
  obtain ⟨n1,n2,n3⟩:=hn
  have memt:∀ {k:Nat}{r:Seg}{x:Obj},H[k]? = some r→(b,x) ∈ r→b ∈ H.flatten.map (·.1):=fun hk hx => zDC.2 ⟨_,zD9.2 ⟨_,zDd.2 ⟨_,hk⟩,hx⟩,rfl⟩
  have hmj:(b,o) ∈ s:=zDd.2 ⟨j,hj⟩
  cases i with
  | zero =>
   cases i' with
   | zero =>
    simp only [zDX,zEH] at hi hi'
    subst hi; subst hi'
    refine ⟨Z,fun j' hj' => ?_⟩
    have l1:=(zDv.1 hj).1
    grind [List.getElem?_eq_some_iff,List.pairwise_iff_getElem,Nat.lt_trichotomy,absurd]
   | succ i' =>
    grind
  | succ i =>
   grind
section
variable {w0:World}{base:Nat}{w w' : World}{H:List Seg}
theorem Sep.write (S:Sep w0 base w H) {o:Obj}(hi:H[i]? = some s) (hj:s[j]? = some (b,o)) (o' : Obj)
  (ho:w'.os=w.os) (ht:w'.tape=w.tape) (hp:w'.output=w.output) (hs:w'.heap.size=w.heap.size) (hb:w'.heap[b]? = some o') (hk:∀ k,k≠b→w'.heap[k]? = w.heap[k]?) :
  Sep w0 base w' (H.set i (s.set j (b,o'))):=by
 have hmem:(b,o) ∈ H.flatten:=zD9.2 ⟨s,zDd.2 ⟨i,hi⟩,zDd.2 ⟨j,hj⟩⟩
 have hbase:=(S.mem _ hmem).1
 refine ⟨S.below.trans ⟨ho,ht,hp,by omega,fun k hk' => hk k kQ⟩,S.le,?_,?_⟩
 ·intro p hp
  rcases zfC hp with h | ⟨i',hne,r,hr,hpr⟩
  ·obtain ⟨j',hj'⟩:=zDd.1 h
   rw [List.getElem?_set] at hj'
   split at hj'
   ·grind
   ·rename_i e
    have hps:p ∈ s:=zDd.2 ⟨j',hj'⟩
    have hpm:p ∈ H.flatten:=zD9.2 ⟨s,zDd.2 ⟨i,hi⟩,hps⟩
    refine ⟨(S.mem p hpm).1,?_⟩
    rw [hk p.1 ?_]
    ·exact (S.mem p hpm).2
    ·intro eb
     obtain ⟨p1,p2⟩:=p
     simp only at eb
     subst eb
     have:=(zeV S.nodup hi hj hi hps).2 j' hj'
     omega
  ·have hpm:p ∈ H.flatten:=zD9.2 ⟨r,zDd.2 ⟨i',hr⟩,hpr⟩
   refine ⟨(S.mem p hpm).1,?_⟩
   rw [hk p.1 ?_]
   ·exact (S.mem p hpm).2
   ·intro eb
    obtain ⟨p1,p2⟩:=p
    simp only at eb
    subst eb
    exact hne (zeV S.nodup hi hj hr hpr).1
 ·rw [zln hi (zwj hj)]
  exact S.nodup
def zbj (H:List Seg):List Nat→Nat→List Seg
 | [],m => H.drop m
 | i::is,m => (H[i]?).getD []::zbj H is m
def zc5:List Nat→Nat→Bool
 | [],_ => true
 | i::is,m => Nat.blt i m && is.all (fun j => !Nat.beq i j) && zc5 is m
theorem zfv {t:Seg}(h:t ∈ zbj H is m):t=[]∨(∃ i,i ∈ is∧H[i]? = some t)∨(∃ i,m≤i∧H[i]? = some t):=by
 induction is with
 | nil =>
  obtain ⟨i,hi⟩:=zDd.1 h
  rw [zbj,zEo] at hi
  grind
 | cons i is ih =>
  rw [zbj,zDp] at h
  grind
theorem zdd :(H.flatten.map (·.1)).Nodup↔(∀ s ∈ H,(s.map (·.1)).Nodup)∧H.Pairwise (fun s t => ∀ x ∈ s.map (·.1),∀ y ∈ t.map (·.1),x≠y):=by
 grind
theorem zpR (h:H.Pairwise (fun s t => ∀ x ∈ s.map (·.1),∀ y ∈ t.map (·.1),x≠y)) (hne:i≠j) {t:Seg}(hi:H[i]? = some s) (hj:H[j]? = some t) :
  ∀ x ∈ s.map (·.1),∀ y ∈ t.map (·.1),x≠y:=by
 rw [zFo] at h
 grind
theorem zgM {H:List Seg}(h:H.Pairwise (fun s t => ∀ x ∈ s.map (·.1),∀ y ∈ t.map (·.1),x≠y)):∀ (is:List Nat) (m:Nat),zc5 is m=true→(zbj H is m).Pairwise (fun s t => ∀ x ∈ s.map (·.1),∀ y ∈ t.map (·.1),x≠y)
 | [],m,_ => List.Pairwise.sublist (List.drop_sublist m H) h
 | i::is,m,hok => by
  simp only [zc5,zC9] at hok
  obtain ⟨⟨hlt,hall⟩,hok⟩:=hok
  have hlt:=zdr hlt
  rw [zbj,List.pairwise_cons]
  refine ⟨fun t ht => ?_,zgM h is m hok⟩
  cases hi:H[i]? with
  | none => simp
  | some s =>
   simp only [zEg]
   rcases zfv ht with rfl | ⟨j,hj,ht⟩ | ⟨j,hj,ht⟩
   ·simp
   ·refine zpR h ?_ hi ht
    have:=zDa.1 hall j hj
    rintro rfl
    simp_all
   grind [zpR]
theorem Sep.pick (S:Sep w0 base w H) (is:List Nat) (m:Nat) (hok:zc5 is m=true):Sep w0 base w (zbj H is m):=by
 obtain ⟨h1,h2⟩:=zdd.1 S.nodup
 refine ⟨S.below,S.le,fun p hp => ?_,zdd.2 ⟨fun t ht => ?_,zgM h2 is m hok⟩⟩
 ·obtain ⟨t,ht,hp⟩:=zD9.1 hp
  refine S.mem p ?_
  rcases zfv ht with rfl | ⟨j,_,ht⟩ | ⟨j,_,ht⟩
  ·grind
  ·grind [List.mem_flatten,List.mem_iff_getElem?]
  grind [List.mem_flatten,List.mem_iff_getElem?]
 ·rcases zfv ht with rfl | ⟨j,_,ht⟩ | ⟨j,_,ht⟩
  ·simp
  ·grind
  grind
end
structure Ctx where
  fn:FuncId
  kind:CallKind
  round:Option Nat
def Ctx.fr (c:Ctx) (a:Array Value) (ds:List Deferred) (k:List Item):Frame :=
 { fn:=c.fn,tmps:=a,todo:=k,defers:=ds,mode:=.run,kind:=c.kind,roundOf:=c.round }
def Ev (P:Program) (m:Machine) (G:Machine→Prop):Prop:=∃ m',Steps P m m'∧G m'
theorem Ev.step {m m' : Machine}(h:step P m = .next m') (h' : Ev P m' G):Ev P m G :=
 let ⟨m2,s,g⟩:=h'; ⟨m2,.head h s,g⟩
theorem Ev.steps {m m' : Machine}(h:Steps P m m') (h' : Ev P m' G):Ev P m G :=
 let ⟨m2,s,g⟩:=h'; ⟨m2,h.trans s,g⟩
structure Pt where
  P:Program
  c:Ctx
  n:Nat
  cs:List Frame
  G:Machine→Prop
  w0:World
  base:Nat
variable {X:Pt}
def At (X:Pt) (k:List Item) (E:Env) (ds:List Deferred) (H:List Seg):Prop :=
 ∀ a w,Agree X.n a E→Sep X.w0 X.base w H→Ev X.P (lone (X.c.fr a ds k) X.cs w) X.G
def AtL (X:Pt) (ops:Array Oper) (os:List Oper) (k:List Item) (E:Env) (ds:List Deferred) (H:List Seg):Prop :=
 ∀ is:List Nat,is.map (fun i => ops[i]?)=os.map some→At X (.inRegion ops is::k) E ds H
section steps
variable {P:Program}{c:Ctx}{a:Array Value}{ds:List Deferred}{k:List Item}{cs:List Frame}{w:World}
theorem ztk (x:Operand):(c.fr a ds k).eval x=evA a x:=by cases x <;> rfl
theorem zio : (c.fr a ds k).eval=evA a:=funext ztk
theorem ztd:step P (lone (c.fr a ds (.code .skip::k)) cs w) = .next (lone (c.fr a ds k) cs w) :=
 step_lone_go (by simp [stepG,stepG.exec,Ctx.fr])
theorem zpo :step P (lone (c.fr a ds (.code (.label l)::k)) cs w) = .next (lone (c.fr a ds k) cs w) :=
 step_lone_go (by simp [stepG,stepG.exec,Ctx.fr])
theorem zkt :step P (lone (c.fr a ds (.inBlock id::k)) cs w) = .next (lone (c.fr a ds k) cs w) :=
 step_lone_go (by simp [stepG,stepG.exec,Ctx.fr])
theorem zks {b:Code}:step P (lone (c.fr a ds (.inScope b::k)) cs w) = .next (lone (c.fr a ds k) cs w) :=
 step_lone_go (by simp [stepG,stepG.exec,Ctx.fr])
theorem zyg {x y:Code}:step P (lone (c.fr a ds (.code (.seq x y)::k)) cs w) = .next (lone (c.fr a ds (.code x::.code y::k)) cs w) :=
 step_lone_go (by simp [stepG,stepG.exec,Ctx.fr])
theorem zfA {o:Operand}{x y:Code}{t:Bool}(h:evA a o = .bool t) :
  step P (lone (c.fr a ds (.code (.cond o x y)::k)) cs w) = .next (lone (c.fr a ds (.code (if t then x else y)::k)) cs w) :=
 step_lone_go (by
  have:=ztk (c:=c) (a:=a) (ds:=ds) (k:=.code (.cond o x y)::k) o
  simp_all [Ctx.fr,stepG,stepG.exec])
theorem zpp {b:Code}:step P (lone (c.fr a ds (.code (.block id b)::k)) cs w) = .next (lone (c.fr a ds (.code b::.inBlock id::k)) cs w) :=
 step_lone_go (by simp [stepG,stepG.exec,Ctx.fr])
theorem zpn {b:Code}:step P (lone (c.fr a ds (.code (.scope b)::k)) cs w) = .next (lone (c.fr a ds (.code b::.inScope b::k)) cs w) :=
 step_lone_go (by simp [stepG,stepG.exec,Ctx.fr])
theorem znV {b:Code}:step P (lone (c.fr a ds (.code (.loop b)::k)) cs w) = .next (lone (c.fr a ds (.code b::.inLoop b::k)) cs w) :=
 step_lone_go (by simp [stepG,stepG.exec,Ctx.fr])
theorem zjd {b:Code}:step P (lone (c.fr a ds (.inLoop b::k)) cs w) = .next (lone (c.fr a ds (.code b::.inLoop b::k)) cs w) :=
 step_lone_go (by simp [stepG,stepG.exec,Ctx.fr])
theorem ztg (h:exitTo id k=some k'):step P (lone (c.fr a ds (.code (.exit id)::k)) cs w) = .next (lone (c.fr a ds k') cs w) :=
 step_lone_go (by simp [stepG,stepG.exec,Ctx.fr,h])
theorem ztf (h:gotoIn l k=some k'):step P (lone (c.fr a ds (.code (.goto l)::k)) cs w) = .next (lone (c.fr a ds k') cs w) :=
 step_lone_go (by simp [stepG,stepG.exec,Ctx.fr,h])
theorem zte (hr:c.round=none):step P (lone (c.fr a ds (.code .ret::k)) cs w) = .next (lone { c.fr a ds (.code .ret::k) with mode:=.returning } cs w) :=
 step_lone_go (by simp [stepG,stepG.exec,Ctx.fr,hr])
theorem zth (hr:c.round=none):step P (lone (c.fr a ds []) cs w) = .next (lone { c.fr a ds [] with mode:=.returning } cs w) :=
 step_lone_go (by simp [stepG,stepG.exec,Ctx.fr,hr])
theorem zmx :step P (lone (c.fr a ds (.code (.region id ops false)::k)) cs w) = .next (lone (c.fr a ds (.inRegion ops (List.range ops.size)::k)) cs w) :=
 step_lone_go (by simp [stepG,stepG.exec,Ctx.fr])
theorem zek :
  step P (lone (c.fr a ds (.code (.region id ops true)::k)) cs w) =
   .next (lone (c.fr a ds (.inRegion ops (Region.schedule (P.follows .mixedOrders) ops (w.tape w.drawn (.order c.fn id)))::k)) cs { w with drawn:=w.drawn + 1 }) :=
 step_lone_go (by simp [stepG,stepG.exec,Ctx.fr,choose,Sem.run,Question.forced,Question.cut])
theorem zbI :step P (lone (c.fr a ds (.inRegion ops []::k)) cs w) = .next (lone (c.fr a ds k) cs w) :=
 step_lone_go (by simp [stepG,stepG.exec,Ctx.fr])
def zbl:Op→Bool
 | .defer _ => true
 | _ => false
theorem zcn (ho:ops[i]? = some o) (hw:Region.wanted o (yielded ops a)=true) (hnd:zbl o.op=false∨c.round=none) :
  stepG P true { frame:=c.fr a ds (.inRegion ops (i::is)::k),callers:=cs,status:=.running,dying:=none } w =
   stepG.apply P true (c.fr a ds (.inRegion ops (i::is)::k)) cs none (execOp (evA a) o) w:=by
 have he:=zio (c:=c) (a:=a) (ds:=ds) (k:=.inRegion ops (i::is)::k)
 simp only [Ctx.fr] at he
 simp only [stepG,stepG.exec,stepG.oper,Frame.oper?,Ctx.fr,ho,hw,he,zDN,zEg,zEm]
 split
 ·rename_i l cc hl hd
  rcases hnd with h | h
  ·rw [hd] at h; cases h
  grind
 ·rfl
theorem zdF (ho:ops[i]? = some o) (hw:Region.wanted o (yielded ops a)=false) :
  step P (lone (c.fr a ds (.inRegion ops (i::is)::k)) cs w) = .next (lone (c.fr (putA a o.dst undef) ds (.inRegion ops is::k)) cs w):=by
 refine step_lone_go ?_
 have e:(c.fr a ds (.inRegion ops (i::is)::k)).finish undef=c.fr (putA a o.dst undef) ds (.inRegion ops is::k):=by
  cases hd:o.dst <;> simp [Frame.finish,Ctx.fr,ho,hd,putA]
 simp_all [stepG,stepG.exec,Ctx.fr]
theorem zbq (ho:ops[i]? = some o) (v:Value) :
  (c.fr a ds (.inRegion ops (i::is)::k)).finish v=c.fr (putA a o.dst v) ds (.inRegion ops is::k):=by
 cases hd:o.dst <;> simp [Frame.finish,Ctx.fr,ho,hd,putA]
theorem zjb {v:Value}(ho:ops[i]? = some o) (hw:Region.wanted o (yielded ops a)=true) (hnd:zbl o.op=false∨c.round=none)
  (hr:(execOp (evA a) o).run P w = .ok (.value v) w') :
  step P (lone (c.fr a ds (.inRegion ops (i::is)::k)) cs w) = .next (lone (c.fr (putA a o.dst v) ds (.inRegion ops is::k)) cs w'):=by
 refine step_lone_go ?_
 simp_all [zcn,zbq,stepG.apply]
theorem zqI (ho:ops[i]? = some o) (hw:Region.wanted o (yielded ops a)=true) (hnd:zbl o.op=false∨c.round=none)
  (hr:(execOp (evA a) o).run P w = .ok .skip w') :
  step P (lone (c.fr a ds (.inRegion ops (i::is)::k)) cs w) = .next (lone (c.fr (putA a o.dst undef) ds (.inRegion ops is::k)) cs w'):=by
 refine step_lone_go ?_
 simp_all [zcn,zbq,stepG.apply]
theorem zjc {d:Deferred}(ho:ops[i]? = some o) (hw:Region.wanted o (yielded ops a)=true) (hnd:zbl o.op=false∨c.round=none)
  (hr:(execOp (evA a) o).run P w = .ok (.defer d) w') :
  step P (lone (c.fr a ds (.inRegion ops (i::is)::k)) cs w) = .next (lone (c.fr (putA a o.dst undef) (d::ds) (.inRegion ops is::k)) cs w'):=by
 refine step_lone_go ?_
 rw [zcn ho hw hnd]
 have:=zbq (c:=c) (a:=a) (ds:=d::ds) (k:=k) (is:=is) ho undef
 simp_all [stepG.apply,Ctx.fr]
theorem zc8 {args:Array Value}(ho:ops[i]? = some o) (hw:Region.wanted o (yielded ops a)=true) (hnd:zbl o.op=false∨c.round=none)
  (hr:(execOp (evA a) o).run P w = .ok (.enter f args) w') :
  step P (lone (c.fr a ds (.inRegion ops (i::is)::k)) cs w) = .next (lone (Frame.enter P f args .normal) (c.fr a ds (.inRegion ops (i::is)::k)::cs) w'):=by
 refine step_lone_go ?_
 rw [zcn ho hw hnd]
 simp [stepG.apply,hr,Ctx.fr]
end steps
def SCalls (P:Program) (f:FuncId) (args:List Value) (w0:World) (base:Nat) (H:List Seg) (R:Value→List Seg→Prop):Prop :=
 ∀ w,Sep w0 base w H→Calls P f args.toArray w fun e w' => ∃ v H',e = .returned v∧R v H'∧Sep w0 base w' H'
theorem SCalls.mono {args:List Value}(h:SCalls P f args w0 base H R) (hr:∀ v H',R v H'→R' v H'):SCalls P f args w0 base H R' :=
 fun w S => (h w S).mono fun _ _ ⟨v,H',he,hR,hS⟩ => ⟨v,H',he,hr _ _ hR,hS⟩
section rules
variable {X:Pt}{k:List Item}{E:Env}{ds:List Deferred}{H:List Seg}{ops:Array Oper}{os:List Oper}
theorem At.mono (hs:Sub E' E) (h:At X k E' ds H):At X k E ds H:=fun a w ha S => h a w (ha.sub hs) S
theorem AtL.mono (hs:Sub E' E) (h:AtL X ops os k E' ds H):AtL X ops os k E ds H:=fun is hi a w ha S => h is hi a w (ha.sub hs) S
theorem At.pick (is:List Nat) (m:Nat) (hok:zc5 is m=true) (hH:zbj H is m=H') (h:At X k E ds H'):At X k E ds H:=fun a w ha S => h a w ha (hH ▸ S.pick is m hok)
theorem AtL.pick (is:List Nat) (m:Nat) (hok:zc5 is m=true) (hH:zbj H is m=H') (h:AtL X ops os k E ds H'):AtL X ops os k E ds H:=fun is' hi a w ha S => h is' hi a w ha (hH ▸ S.pick is m hok)
theorem At.nil (h:At X k E ds ([]::H)):At X k E ds H:=fun a w ha S => h a w ha S.nil
theorem AtL.nil (h:AtL X ops os k E ds ([]::H)):AtL X ops os k E ds H:=fun is hi a w ha S => h is hi a w ha S.nil
theorem zlJ (h:At X k E ds H):At X (.code .skip::k) E ds H:=fun a w ha S => .step ztd (h a w ha S)
theorem zxM (h:At X k E ds H):At X (.code (.label l)::k) E ds H:=fun a w ha S => .step zpo (h a w ha S)
theorem zhE (h:At X k E ds H):At X (.inBlock id::k) E ds H:=fun a w ha S => .step zkt (h a w ha S)
theorem At.inScope {b:Code}(h:At X k E ds H):At X (.inScope b::k) E ds H:=fun a w ha S => .step zks (h a w ha S)
theorem zfg {x y:Code}(h:At X (.code x::.code y::k) E ds H):At X (.code (.seq x y)::k) E ds H:=fun a w ha S => .step zyg (h a w ha S)
theorem At.block {b:Code}(h:At X (.code b::.inBlock id::k) E ds H):At X (.code (.block id b)::k) E ds H:=fun a w ha S => .step zpp (h a w ha S)
theorem zxI {b:Code}(h:At X (.code b::.inScope b::k) E ds H):At X (.code (.scope b)::k) E ds H:=fun a w ha S => .step zpn (h a w ha S)
theorem zBd (he:exitTo id k=some k') (h:At X k' E ds H):At X (.code (.exit id)::k) E ds H:=fun a w ha S => .step (ztg he) (h a w ha S)
theorem At.goto (he:gotoIn l k=some k') (h:At X k' E ds H):At X (.code (.goto l)::k) E ds H:=fun a w ha S => .step (ztf he) (h a w ha S)
theorem zxQ {o:Operand}{x y:Code}(hc:ev E o=some (.bool true)) (h:At X (.code x::k) E ds H):At X (.code (.cond o x y)::k) E ds H :=
 fun a w ha S => .step (zfA (ha.ev hc)) (h a w ha S)
theorem zp0 {o:Operand}{x y:Code}(hc:ev E o=some (.bool false)) (h:At X (.code y::k) E ds H):At X (.code (.cond o x y)::k) E ds H :=
 fun a w ha S => .step (zfA (ha.ev hc)) (h a w ha S)
theorem zaT {o:Operand}{x y:Code}{t:Bool}(hc:ev E o=some (.bool t)) (ht:t=true→At X (.code x::k) E ds H) (hf:t=false→At X (.code y::k) E ds H):At X (.code (.cond o x y)::k) E ds H :=
 fun a w ha S => by
  cases t with
  | true => exact .step (zfA (ha.ev hc)) (ht rfl a w ha S)
  | false => exact .step (zfA (ha.ev hc)) (hf rfl a w ha S)
theorem zao {o:Operand}{x y:Code}{t:Bool}(b:Bool) (hc:ev E o=some (.bool t)) (hb:t=b) (h:At X (.code (match b with | true => x | false => y)::k) E ds H):At X (.code (.cond o x y)::k) E ds H :=
 fun a w ha S => by
  subst hb
  cases t with
  | true => exact .step (zfA (ha.ev hc)) (h a w ha S)
  | false => exact .step (zfA (ha.ev hc)) (h a w ha S)
theorem zcA {rops:Array Oper}(h:AtL X rops rops.toList k E ds H):At X (.code (.region id rops false)::k) E ds H :=
 fun a w ha S => .step zmx (h (List.range rops.size) (by
  apply zFf
  ·simp
  grind) a w ha S)
theorem AtL.done (h:At X k E ds H):AtL X ops [] k E ds H:=fun is hi a w ha S => by
 have:is=[]:=by simp_all
 subst this
 exact .step zbI (h a w ha S)
theorem zbM {b:Code}{ι:Type}(Ei:ι→Env) (Hi:ι→List Seg) (I:ι→Prop) (μ:ι→Nat) (x0:ι) (h0:I x0) (hE:Sub (Ei x0) E) (hH:Hi x0=H)
  (hr:∀ x,I x→(∀ x',I x'→μ x' < μ x→∀ E',Sub (Ei x') E'→At X (.inLoop b::k) E' ds (Hi x'))→At X (.code b::.inLoop b::k) (Ei x) ds (Hi x)):At X (.code (.loop b)::k) E ds H:=by
 have key:∀ n x,μ x=n→I x→At X (.code b::.inLoop b::k) (Ei x) ds (Hi x):=by
  intro n
  induction n using Nat.strongRecOn with
  | _ n ih =>
   intro x hx hI
   refine hr x hI fun x' hI' hlt E' hE' => ?_
   exact fun a w ha S => .step zjd (ih (μ x') (hx ▸ hlt) x' Z hI' a w (ha.sub hE') S)
 subst hH
 exact fun a w ha S => .step znV (key _ x0 Z h0 a w (ha.sub hE) S)
theorem zcC {b:Code}(Ei:α→β→Env) (Hi:α→β→List Seg) (I:α→β→Prop) (μ:α→β→Nat) (x:α) (y:β) (h0:I x y) (hE:Sub (Ei x y) E) (hH:Hi x y=H)
  (hr:∀ x y,I x y→(∀ x' y',I x' y'→μ x' y' < μ x y→∀ E',Sub (Ei x' y') E'→At X (.inLoop b::k) E' ds (Hi x' y'))→At X (.code b::.inLoop b::k) (Ei x y) ds (Hi x y)):At X (.code (.loop b)::k) E ds H :=
 zbM (ι:=α×β) (fun p => Ei p.1 p.2) (fun p => Hi p.1 p.2) (fun p => I p.1 p.2) (fun p => μ p.1 p.2) (x,y) h0 hE hH fun p hI ih => hr p.1 p.2 hI fun x' y' => ih (x',y')
theorem zcd {b:Code}(Ei:α→β→γ→Env) (Hi:α→β→γ→List Seg) (I:α→β→γ→Prop) (μ:α→β→γ→Nat) (x:α) (y:β) (z:γ) (h0:I x y z) (hE:Sub (Ei x y z) E) (hH:Hi x y z=H)
  (hr:∀ x y z,I x y z→(∀ x' y' z',I x' y' z'→μ x' y' z' < μ x y z→∀ E',Sub (Ei x' y' z') E'→At X (.inLoop b::k) E' ds (Hi x' y' z'))→At X (.code b::.inLoop b::k) (Ei x y z) ds (Hi x y z)):At X (.code (.loop b)::k) E ds H :=
 zbM (ι:=α×β×γ) (fun p => Ei p.1 p.2.1 p.2.2) (fun p => Hi p.1 p.2.1 p.2.2) (fun p => I p.1 p.2.1 p.2.2) (fun p => μ p.1 p.2.1 p.2.2) (x,y,z) h0 hE hH fun p hI ih => hr p.1 p.2.1 p.2.2 hI fun x' y' z' => ih (x',y',z')
theorem zxL {b:Code}(Ei:α→β→γ→δ→Env) (Hi:α→β→γ→δ→List Seg) (I:α→β→γ→δ→Prop) (μ:α→β→γ→δ→Nat) (x:α) (y:β) (z:γ) (u:δ) (h0:I x y z u) (hE:Sub (Ei x y z u) E) (hH:Hi x y z u=H)
  (hr:∀ x y z u,I x y z u→(∀ x' y' z' u',I x' y' z' u'→μ x' y' z' u' < μ x y z u→∀ E',Sub (Ei x' y' z' u') E'→At X (.inLoop b::k) E' ds (Hi x' y' z' u'))→At X (.code b::.inLoop b::k) (Ei x y z u) ds (Hi x y z u)):At X (.code (.loop b)::k) E ds H :=
 zbM (ι:=α×β×γ×δ) (fun p => Ei p.1 p.2.1 p.2.2.1 p.2.2.2) (fun p => Hi p.1 p.2.1 p.2.2.1 p.2.2.2) (fun p => I p.1 p.2.1 p.2.2.1 p.2.2.2) (fun p => μ p.1 p.2.1 p.2.2.1 p.2.2.2) (x,y,z,u) h0 hE hH fun p hI ih => hr p.1 p.2.1 p.2.2.1 p.2.2.2 hI fun x' y' z' u' => ih (x',y',z',u')
theorem zg8 {b:Code}(Ei:α→β→γ→δ→ε→Env) (Hi:α→β→γ→δ→ε→List Seg) (I:α→β→γ→δ→ε→Prop) (μ:α→β→γ→δ→ε→Nat) (x:α) (y:β) (z:γ) (u:δ) (v:ε) (h0:I x y z u v) (hE:Sub (Ei x y z u v) E) (hH:Hi x y z u v=H)
  (hr:∀ x y z u v,I x y z u v→(∀ x' y' z' u' v',I x' y' z' u' v'→μ x' y' z' u' v' < μ x y z u v→∀ E',Sub (Ei x' y' z' u' v') E'→At X (.inLoop b::k) E' ds (Hi x' y' z' u' v'))→At X (.code b::.inLoop b::k) (Ei x y z u v) ds (Hi x y z u v)):At X (.code (.loop b)::k) E ds H :=
 zbM (ι:=α×β×γ×δ×ε) (fun p => Ei p.1 p.2.1 p.2.2.1 p.2.2.2.1 p.2.2.2.2) (fun p => Hi p.1 p.2.1 p.2.2.1 p.2.2.2.1 p.2.2.2.2) (fun p => I p.1 p.2.1 p.2.2.1 p.2.2.2.1 p.2.2.2.2) (fun p => μ p.1 p.2.1 p.2.2.1 p.2.2.2.1 p.2.2.2.2) (x,y,z,u,v) h0 hE hH
  fun p hI ih => hr p.1 p.2.1 p.2.2.1 p.2.2.2.1 p.2.2.2.2 hI fun x' y' z' u' v' => ih (x',y',z',u',v')
theorem zxK {b:Code}{ζ:Type}(Ei:α→β→γ→δ→ε→ζ→Env) (Hi:α→β→γ→δ→ε→ζ→List Seg) (I:α→β→γ→δ→ε→ζ→Prop) (μ:α→β→γ→δ→ε→ζ→Nat) (x:α) (y:β) (z:γ) (u:δ) (v:ε) (q:ζ) (h0:I x y z u v q) (hE:Sub (Ei x y z u v q) E) (hH:Hi x y z u v q=H)
  (hr:∀ x y z u v q,I x y z u v q→(∀ x' y' z' u' v' q',I x' y' z' u' v' q'→μ x' y' z' u' v' q' < μ x y z u v q→∀ E',Sub (Ei x' y' z' u' v' q') E'→At X (.inLoop b::k) E' ds (Hi x' y' z' u' v' q'))→At X (.code b::.inLoop b::k) (Ei x y z u v q) ds (Hi x y z u v q)):At X (.code (.loop b)::k) E ds H :=
 zbM (ι:=α×β×γ×δ×ε×ζ) (fun p => Ei p.1 p.2.1 p.2.2.1 p.2.2.2.1 p.2.2.2.2.1 p.2.2.2.2.2) (fun p => Hi p.1 p.2.1 p.2.2.1 p.2.2.2.1 p.2.2.2.2.1 p.2.2.2.2.2) (fun p => I p.1 p.2.1 p.2.2.1 p.2.2.2.1 p.2.2.2.2.1 p.2.2.2.2.2) (fun p => μ p.1 p.2.1 p.2.2.1 p.2.2.2.1 p.2.2.2.2.1 p.2.2.2.2.2) (x,y,z,u,v,q) h0 hE hH
  fun p hI ih => hr p.1 p.2.1 p.2.2.1 p.2.2.2.1 p.2.2.2.2.1 p.2.2.2.2.2 hI fun x' y' z' u' v' q' => ih (x',y',z',u',v',q')
theorem zat {b:Bool}(h:(!b)=true):b=false:=by cases b <;> simp_all
theorem zas {b:Bool}(h:(!b)=false):b=true:=by cases b <;> simp_all
def Wd (X:Pt) (ops:Array Oper) (E:Env) (g:Option (Nat×Bool)):Prop :=
 g=none∨∃ j want t,g=some (j,want)∧(ops[j]?).bind (·.dst)=some t∧Nat.blt t X.n=true∧Env.get E t=some (.bool want)
theorem zg0 :Wd X ops E none:=.inl rfl
theorem zfV {a:Array Value}{t:Nat}{b:Bool}(ha:Agree n a E) (hj:(ops[j]?).bind (·.dst)=some t) (ht:Nat.blt t n=true) (hb:Env.get E t=some (.bool b)):yielded ops a j=some b:=by
 have hlt:=zdr ht
 have hv:=ha.get t _ hb
 unfold yielded
 rw [hj]
 have hs:t < a.size:=by rw [ha.size]; omega
 simp_all
theorem Wd.wanted (h:Wd X ops E o.guard) {a:Array Value}(ha:Agree X.n a E):Region.wanted o (yielded ops a)=true:=by
 rcases h with h | ⟨j,want,t,hg,hj,ht,hb⟩
 ·simp [Region.wanted,h]
 grind [Region.wanted,zfV]
def Does (X:Pt) (E:Env) (H:List Seg) (op:Op) (R:Value→List Seg→Prop):Prop :=
 ∀ (dst:Option Tmp) (ty:TypeId) (pos:String) (after:Array Edge) (g:Option (Nat×Bool)) (ops:Array Oper) (i:Nat) (is:List Nat) (k:List Item) (ds:List Deferred) (a:Array Value) (w:World),
  ops[i]? = some ⟨dst,op,ty,pos,after,g⟩→Region.wanted ⟨dst,op,ty,pos,after,g⟩ (yielded ops a)=true→(∀ x v,ev E x=some v→evA a x=v)→Sep X.w0 X.base w H →
  ∃ v H' w',R v H'∧Sep X.w0 X.base w' H'∧Steps X.P (lone (X.c.fr a ds (.inRegion ops (i::is)::k)) X.cs w) (lone (X.c.fr (putA a dst v) ds (.inRegion ops is::k)) X.cs w')
def Is (v:Value) (H:List Seg):Value→List Seg→Prop:=fun u H' => u=v∧H' = H
theorem Does.mono (h:Does X E H op R) (hr:∀ v H',R v H'→R' v H'):Does X E H op R':=by
 intro dst ty pos after g ops i is k ds a w ho hw ha S
 obtain ⟨v,H',w',hR,S',hs⟩:=h dst ty pos after g ops i is k ds a w ho hw ha S
 grind
theorem AtL.of {dst:Option Tmp}{pos:String}(h:Does X E H op R) (hg:Wd X ops E g) (hd:zcq X.n dst=true)
  (hk:∀ v H',R v H'→AtL X ops os k (putE E dst v) ds H'):AtL X ops (⟨dst,op,ty,pos,after,g⟩::os) k E ds H:=by
 intro is hi a w ha S
 cases is with
 | nil => grind
 | cons i is =>
  simp only [zDo,zD2] at hi
  obtain ⟨ho,hi⟩:=hi
  obtain ⟨v,H',w',hR,S',hs⟩:=h dst ty pos after g ops i is k ds a w ho (hg.wanted (o:=⟨dst,op,ty,pos,after,g⟩) ha) (fun x v hx => ha.ev hx) S
  exact .steps hs (hk v H' hR is hi _ _ (ha.put hd v) S')
theorem zai {pos:String}{v:Value}(h:Does X E H op (Is v H)) (hg:Wd X ops E g) (hd:Nat.blt d X.n=true)
  (hk:AtL X ops os k ((d,v)::E) ds H):AtL X ops (⟨some d,op,ty,pos,after,g⟩::os) k E ds H :=
 AtL.of h hg hd fun _ _ ⟨hv,hH⟩ => by subst hv; subst hH; exact hk
theorem zaq (hnd:zbl op=false)
  (h:∀ dst ty pos after g ρ w,(∀ x v,ev E x=some v→ρ x=v)→Sep X.w0 X.base w H→∃ v w' H',(execOp ρ ⟨dst,op,ty,pos,after,g⟩).run X.P w = .ok (.value v) w'∧Sep X.w0 X.base w' H'∧R v H'):Does X E H op R:=by
 intro dst ty pos after g ops i is k ds a w ho hw ha S
 obtain ⟨v,w',H',hr,S',hR⟩:=h dst ty pos after g (evA a) w ha S
 exact ⟨v,H',w',hR,S',.one (zjb ho hw (.inl hnd) hr)⟩
theorem zcL (hnd:zbl op=false)
  (h:∀ dst ty pos after g ρ w,(∀ x v,ev E x=some v→ρ x=v)→Sep X.w0 X.base w H→∃ w' H',(execOp ρ ⟨dst,op,ty,pos,after,g⟩).run X.P w = .ok .skip w'∧Sep X.w0 X.base w' H'∧R undef H'):Does X E H op R:=by
 intro dst ty pos after g ops i is k ds a w ho hw ha S
 obtain ⟨w',H',hr,S',hR⟩:=h dst ty pos after g (evA a) w ha S
 exact ⟨undef,H',w',hR,S',.one (zqI ho hw (.inl hnd) hr)⟩
theorem zan {v:Value}(hnd:zbl op=false)
  (h:∀ dst ty pos after g ρ w,(∀ x v,ev E x=some v→ρ x=v)→(execOp ρ ⟨dst,op,ty,pos,after,g⟩).run X.P w = .ok (.value v) w):Does X E H op (Is v H) :=
 zaq hnd fun dst ty pos after g ρ w hρ S => ⟨v,w,H,h dst ty pos after g ρ w hρ,S,rfl,rfl⟩
theorem zkG {args:List Value}(hnd:zbl op=false)
  (h:∀ dst ty pos after g ρ w,(∀ x v,ev E x=some v→ρ x=v)→(execOp ρ ⟨dst,op,ty,pos,after,g⟩).run X.P w = .ok (.enter f args.toArray) w)
  (hc:SCalls X.P f args X.w0 X.base H R):Does X E H op R:=by
 intro dst ty pos after g ops i is k ds a w ho hw ha S
 have hr:=h dst ty pos after g (evA a) w ha
 obtain ⟨e,w',fr,⟨v,H',rfl,hR,S'⟩,hcomes,_,hleave⟩:=hc w S (X.c.fr a ds (.inRegion ops (i::is)::k)::X.cs)
 refine ⟨v,H',w',hR,S',.head (zc8 ho hw (.inl hnd) hr) (Steps.trans hcomes (.one ?_))⟩
 have:=step_leave_returned (cs:=X.cs) (c:=X.c.fr a ds (.inRegion ops (i::is)::k)) hleave
 simp_all [zbq]
theorem zon {t:Nat}{want:Bool}{b:Bool}(hg:o.guard=some (j,want)) (hj:(ops[j]?).bind (·.dst)=some t) (ht:Nat.blt t X.n=true) (hb:Env.get E t=some (.bool b)) (hw:(b == want)=false) (hd:zcq X.n o.dst=true)
  (h:AtL X ops os k (putE E o.dst undef) ds H):AtL X ops (o::os) k E ds H:=by
 intro is hi a w ha S
 cases is with
 | nil => grind
 | cons i is =>
  simp only [zDo,zD2] at hi
  obtain ⟨ho,hi⟩:=hi
  refine .step (zdF ho ?_) (h is hi _ _ (ha.put hd undef) S)
  have:=zfV ha hj ht hb
  grind [Region.wanted]
theorem zaK {t:Nat}{b:Bool}(hb:Env.get E t=some (.bool b)) (ht:b=true→AtL X ops os k ((t,.bool true)::E) ds H) (hf:b=false→AtL X ops os k ((t,.bool false)::E) ds H):AtL X ops os k E ds H:=by
 have hs:∀ (a:Array Value) (w:World),Agree X.n a E→Agree X.n a ((t,.bool b)::E):=by
  intro a w ha
  refine ⟨ha.size,fun u v hu => ?_⟩
  simp only [Env.get] at hu
  by_cases e:t=u
  ·subst e
   simp at hu
   subst hu
   exact ha.get t _ hb
  ·rw [zbh e] at hu
   exact ha.get u v hu
 cases b with
 | true => exact fun is hi a w ha S => ht rfl is hi a w (hs a w ha) S
 | false => exact fun is hi a w ha S => hf rfl is hi a w (hs a w ha) S
end rules
theorem zac {o:Operand}{x y:Code}{P:Prop}{i:Decidable P}(hc:ev E o=some (.bool (@decide P i))) (ht:P→At X (.code x::k) E ds H) (hf:¬ P→At X (.code y::k) E ds H):At X (.code (.cond o x y)::k) E ds H:=zaT hc (fun h => ht (zDf h)) (fun h => hf (zDm h))
theorem zaG {t:Nat}{P:Prop}{i:Decidable P}(hb:Env.get E t=some (.bool (@decide P i))) (ht:P→AtL X ops os k ((t,.bool true)::E) ds H) (hf:¬ P→AtL X ops os k ((t,.bool false)::E) ds H):AtL X ops os k E ds H:=zaK hb (fun h => ht (zDf h)) (fun h => hf (zDm h))
def Left (P:Program) (f:FuncId) (cs:List Frame) (w0:World) (base:Nat) (R:Value→List Seg→Prop) (m:Machine):Prop :=
 ∃ v H' fr w',m=lone fr cs w'∧fr.fn=f∧fr.leaving P w' (.returned v)∧R v H'∧Sep w0 base w' H'
def zeo:List Value→Nat→Env
 | [],_ => []
 | v::vs,i => (i,v)::zeo vs (i + 1)
theorem zgr {t:Nat}{v:Value}(h:Env.get (zeo vs i) t=some v):i≤t∧vs[t - i]? = some v:=by
 induction vs generalizing i with
 | nil => grind [zeo,Env.get]
 | cons u vs ih =>
  grind [zeo,Env.get,zbh,List.getElem?_cons_succ]
theorem zaa {c:Code}{args:List Value} 
  (hf:P.funcs[f]? = some fn) (hb:fn.body=some c) (hn:fn.ntmps=n) (hle:Nat.ble args.length n=true)
  (h:∀ cs,At ⟨P,⟨f,.normal,none⟩,n,cs,Left P f cs w0 base R,w0,base⟩ [.code c] (zeo args 0) [] H):SCalls P f args w0 base H R:=by
 intro w S cs
 have hle:=zDT hle
 have hA:Agree n (args.toArray++Array.replicate (n - args.length) undef) (zeo args 0):=by
  refine ⟨by grind,fun t v hv => ?_⟩
  obtain ⟨_,h2⟩:=zgr hv
  rw [zFp] at h2
  have hlt:=(zDv.1 h2).1
  simp_all [zDu,zEx]
 obtain ⟨m',hs,v,H',fr,w',rfl,h1,h2,h3,h4⟩:=h cs _ w hA S
 refine ⟨.returned v,w',fr,⟨v,H',Z,h3,h4⟩,?_,h1,h2⟩
 have henter:Frame.enter P f args.toArray .normal=Ctx.fr ⟨f,.normal,none⟩ (args.toArray++Array.replicate (n - args.length) undef) [] [.code c]:=by
  grind [Frame.enter,Ctx.fr]
 rw [henter]
 exact hs
def resV (E:Env):List ResultVar→Option (List Value)
 | [] => some []
 | .tmp t::rs => match Env.get E t with
  | some v => (resV E rs).map (v::·)
  | none => none
 | .cell _ _::_ => none
def zc3:List Value→Value
 | [v] => v
 | vs => .tuple vs.toArray
theorem zyY {a:Array Value}(ha:Agree n a E) (h:resV E rs=some vs) :
  (rs.mapM (m:=Sem) fun (r:ResultVar) => match r with
   | .tmp t => (Pure.pure (a.getD t undef):Sem Value)
   | .cell x t => do loadVar t (← asAddr (a.getD x undef))).run P w = .ok vs w:=by
 induction rs generalizing vs with
 | nil => simp_all [resV,zEH]
 | cons r rs ih =>
  cases r with
  | cell x t => grind [resV]
  | tmp t =>
   simp only [resV] at h
   cases hg:Env.get E t with
   | none => grind
   | some v =>
    rw [hg] at h
    cases hr:resV E rs with
    | none => grind
    | some us =>
     rw [hr] at h
     simp only [zDN,zEH] at h
     subst h
     rw [zEW]
     simp only [Sem.run_bind,Sem.run_pure,Result.andThen_ok,ih hr,ha.get t v hg]
theorem zjE {cs:List Frame} 
  (hf:P.funcs[f]? = some fn) (hrs:fn.results.toList=rs) (hv:resV E rs=some vs) (hR:R (zc3 vs) H)
  (hk:∀ (a:Array Value) (w:World),∃ todo,step P (lone (Ctx.fr ⟨f,.normal,none⟩ a [] k) cs w) = .next (lone { Ctx.fr ⟨f,.normal,none⟩ a [] todo with mode:=.returning } cs w)) :
  At ⟨P,⟨f,.normal,none⟩,n,cs,Left P f cs w0 base R,w0,base⟩ k E [] H:=by
 intro a w ha S
 obtain ⟨todo,hs⟩:=hk a w
 refine ⟨_,.one hs,zc3 vs,H,_,w,Z,Z,⟨Z,Z,Z,fn,hf,?_⟩,hR,S⟩
 have:=zyY (P:=P) ha (w:=w) hv
 unfold results
 rw [zES,hrs]
 simp only [Sem.run_bind,zF3,Sem.run_pure] at this ⊢
 refine Eq.trans ?_ (zDh (fun r => Result.ok r w) (show (if h:vs.toArray.size=1 then vs.toArray[0] else .tuple vs.toArray)=zc3 vs from ?_))
 ·exact (zDh (fun r => Result.andThen r _) (zDh (fun r => Result.andThen r _) this)).trans (by simp_all)
 ·match vs with
  | [] => rfl
  | [v] => rfl
  | v::u::vs => rfl
theorem zad {cs:List Frame} 
  (hf:P.funcs[f]? = some fn) (hrs:fn.results.toList=rs) (hv:resV E rs=some vs) (hR:R (zc3 vs) H) :
  At ⟨P,⟨f,.normal,none⟩,n,cs,Left P f cs w0 base R,w0,base⟩ (.code .ret::k) E [] H :=
 zjE hf hrs hv hR fun a w => ⟨_,zte rfl⟩
theorem zlK {cs:List Frame} 
  (hf:P.funcs[f]? = some fn) (hrs:fn.results.toList=rs) (hv:resV E rs=some vs) (hR:R (zc3 vs) H) :
  At ⟨P,⟨f,.normal,none⟩,n,cs,Left P f cs w0 base R,w0,base⟩ [] E [] H :=
 zjE hf hrs hv hR fun a w => ⟨_,zth rfl⟩
def str (l:yB):Value:=.string ⟨⟨l⟩⟩
def byt (u:UInt8):Value:=.int .u8 (u.toNat:Int)
abbrev int (x:Int):Value:=.int .i64 x
theorem zba (l:yB):(ByteArray.mk ⟨l⟩).size=l.length:=rfl
theorem w64 (h1:-9223372036854775808≤z) (h2:z≤9223372036854775807):IntKind.i64.wrap z=z:=IntWalk.i64_in _ ⟨h1,h2⟩
theorem w8 (h1:0≤z) (h2:z≤255):IntKind.u8.wrap z=z:=by
 simp only [IntKind.wrap,IntKind.bits,IntKind.signed,zEX,zDU]
 grind
theorem zcu (l:yB):(ByteArray.mk ⟨l⟩).toList=l:=ByteArray.toList_eq _
theorem zCD (l:yB) (j:Nat) (hj:j < l.length):(ByteArray.mk ⟨l⟩)[j]? = some (l.getD j 0):=by
 rw [getElem?_pos (ByteArray.mk ⟨l⟩) j hj]
 show some l[j]=_
 grind
theorem zjo (a b:yB):(a == b)=decide (a=b):=by
 grind
section
variable {X:Pt}{k:List Item}{E:Env}{ds:List Deferred}{H:List Seg}{ops:Array Oper}{os:List Oper}
  {d:Nat}{ty:TypeId}{pos:String}{after:Array Edge}{g:Option (Nat×Bool)}
theorem Do.move {v:Value}(hx:ev E x=some v):Does X E H (.move x) (Is (v) H) :=
 zan rfl (fun dst ty pos after g ρ w hρ => by simp_all [execOp])
theorem AtL.move {v:Value}(hg:Wd X ops E g) (hd:Nat.blt d X.n=true) (hx:ev E x=some v) (hk:AtL X ops os k ((d,v)::E) ds H) :
  AtL X ops (⟨some d,.move x,ty,pos,after,g⟩::os) k E ds H :=
 zai (Do.move hx) hg hd hk
theorem Do.assign {v:Value}(hx:ev E x=some v):Does X E H (.assign x) (Is (v) H) :=
 zan rfl (fun dst ty pos after g ρ w hρ => by simp_all [execOp])
theorem AtL.assign {v:Value}(hg:Wd X ops E g) (hd:Nat.blt d X.n=true) (hx:ev E x=some v) (hk:AtL X ops os k ((d,v)::E) ds H) :
  AtL X ops (⟨some d,.assign x,ty,pos,after,g⟩::os) k E ds H :=
 zai (Do.assign hx) hg hd hk
theorem zef {c:Operand}{v:Value}(hc:ev E c=some (.bool true)) (hx:ev E x=some v):Does X E H (.pick c x y) (Is (v) H) :=
 zan rfl (fun dst ty pos after g ρ w hρ => by simp_all [execOp,asBool])
theorem zuU {c:Operand}{v:Value}(hg:Wd X ops E g) (hd:Nat.blt d X.n=true) (hc:ev E c=some (.bool true)) (hx:ev E x=some v) (hk:AtL X ops os k ((d,v)::E) ds H) :
  AtL X ops (⟨some d,.pick c x y,ty,pos,after,g⟩::os) k E ds H :=
 zai (zef hc hx) hg hd hk
theorem zeg {c:Operand}{v:Value}(hc:ev E c=some (.bool false)) (hy:ev E y=some v):Does X E H (.pick c x y) (Is (v) H) :=
 zan rfl (fun dst ty pos after g ρ w hρ => by simp_all [execOp,asBool])
theorem zuV {c:Operand}{v:Value}(hg:Wd X ops E g) (hd:Nat.blt d X.n=true) (hc:ev E c=some (.bool false)) (hy:ev E y=some v) (hk:AtL X ops os k ((d,v)::E) ds H) :
  AtL X ops (⟨some d,.pick c x y,ty,pos,after,g⟩::os) k E ds H :=
 zai (zeg hc hy) hg hd hk
theorem zcM {op:BinOp}{a b v:Value}(hx:ev E x=some a) (hy:ev E y=some b) (hr:∀ w,(do eqGuard op tx x y a b; binOp op tx a b:Sem Value).run X.P w = .ok v w):Does X E H (.binOp op tx x y tz) (Is (v) H) :=
 zan rfl (fun dst ty pos after g ρ w hρ => by
  grind [execOp,Sem.run_bind,Result.andThen_ok,Sem.run_pure])
section ints
variable {kk:IntKind}{tx tz:TypeId}{x y:Operand}{a b z:Int}
theorem Do.add (hx:ev E x=some (.int kk a)) (hy:ev E y=some (.int kk b)) (hz:kk.wrap (a + b)=z):Does X E H (.binOp .add tx x y tz) (Is (.int kk z) H) :=
 zcM hx hy (fun w => by simp [eqGuard,binOp,Op.intArith,hz])
theorem AtL.add (hg:Wd X ops E g) (hd:Nat.blt d X.n=true) (hx:ev E x=some (.int kk a)) (hy:ev E y=some (.int kk b)) (hz:kk.wrap (a + b)=z) (hk:AtL X ops os k ((d,.int kk z)::E) ds H) :
  AtL X ops (⟨some d,.binOp .add tx x y tz,ty,pos,after,g⟩::os) k E ds H :=
 zai (Do.add hx hy hz) hg hd hk
theorem Do.sub (hx:ev E x=some (.int kk a)) (hy:ev E y=some (.int kk b)) (hz:kk.wrap (a - b)=z):Does X E H (.binOp .sub tx x y tz) (Is (.int kk z) H) :=
 zcM hx hy (fun w => by simp [eqGuard,binOp,Op.intArith,hz])
theorem AtL.sub (hg:Wd X ops E g) (hd:Nat.blt d X.n=true) (hx:ev E x=some (.int kk a)) (hy:ev E y=some (.int kk b)) (hz:kk.wrap (a - b)=z) (hk:AtL X ops os k ((d,.int kk z)::E) ds H) :
  AtL X ops (⟨some d,.binOp .sub tx x y tz,ty,pos,after,g⟩::os) k E ds H :=
 zai (Do.sub hx hy hz) hg hd hk
theorem zCZ (hx:ev E x=some (.int kk a)) (hy:ev E y=some (.int kk b)) (hz:kk.wrap (a * b)=z):Does X E H (.binOp .mul tx x y tz) (Is (.int kk z) H) :=
 zcM hx hy (fun w => by simp [eqGuard,binOp,Op.intArith,hz])
theorem zfa (hg:Wd X ops E g) (hd:Nat.blt d X.n=true) (hx:ev E x=some (.int kk a)) (hy:ev E y=some (.int kk b)) (hz:kk.wrap (a * b)=z) (hk:AtL X ops os k ((d,.int kk z)::E) ds H) :
  AtL X ops (⟨some d,.binOp .mul tx x y tz,ty,pos,after,g⟩::os) k E ds H :=
 zai (zCZ hx hy hz) hg hd hk
theorem zCW (hx:ev E x=some (.int kk a)) (hy:ev E y=some (.int kk b)) (hb:b≠0) (hz:kk.wrap (a.tdiv b)=z):Does X E H (.binOp .quo tx x y tz) (Is (.int kk z) H) :=
 zcM hx hy (fun w => by simp_all [eqGuard,binOp,Op.intDiv])
theorem zuT (hg:Wd X ops E g) (hd:Nat.blt d X.n=true) (hx:ev E x=some (.int kk a)) (hy:ev E y=some (.int kk b)) (hb:b≠0) (hz:kk.wrap (a.tdiv b)=z) (hk:AtL X ops os k ((d,.int kk z)::E) ds H) :
  AtL X ops (⟨some d,.binOp .quo tx x y tz,ty,pos,after,g⟩::os) k E ds H :=
 zai (zCW hx hy hb hz) hg hd hk
theorem zCV (hx:ev E x=some (.int kk a)) (hy:ev E y=some (.int kk b)) (hb:b≠0) (hz:a.tmod b=z):Does X E H (.binOp .rem tx x y tz) (Is (.int kk z) H) :=
 zcM hx hy (fun w => by simp_all [eqGuard,binOp,Op.intDiv])
theorem zA6 (hg:Wd X ops E g) (hd:Nat.blt d X.n=true) (hx:ev E x=some (.int kk a)) (hy:ev E y=some (.int kk b)) (hb:b≠0) (hz:a.tmod b=z) (hk:AtL X ops os k ((d,.int kk z)::E) ds H) :
  AtL X ops (⟨some d,.binOp .rem tx x y tz,ty,pos,after,g⟩::os) k E ds H :=
 zai (zCV hx hy hb hz) hg hd hk
theorem zys (hx:ev E x=some (.int kk a)) (hy:ev E y=some (.int k2 b)) (hb:0≤b) (hz:kk.wrap (a * 2 ^ (min b.toNat kk.bits))=z):Does X E H (.binOp .shl tx x y tz) (Is (.int kk z) H) :=
 zcM hx hy (fun w => by simp [eqGuard,binOp,Op.shift,hz,show ¬ b < 0 by omega])
theorem zhD (hg:Wd X ops E g) (hd:Nat.blt d X.n=true) (hx:ev E x=some (.int kk a)) (hy:ev E y=some (.int k2 b)) (hb:0≤b) (hz:kk.wrap (a * 2 ^ (min b.toNat kk.bits))=z) (hk:AtL X ops os k ((d,.int kk z)::E) ds H) :
  AtL X ops (⟨some d,.binOp .shl tx x y tz,ty,pos,after,g⟩::os) k E ds H :=
 zai (zys hx hy hb hz) hg hd hk
theorem zCU (hx:ev E x=some (.int kk a)) (hy:ev E y=some (.int k2 b)) (hb:0≤b) (hz:a.fdiv (2 ^ (min b.toNat kk.bits))=z):Does X E H (.binOp .shr tx x y tz) (Is (.int kk z) H) :=
 zcM hx hy (fun w => by simp [eqGuard,binOp,Op.shift,hz,show ¬ b < 0 by omega])
theorem zeq (hg:Wd X ops E g) (hd:Nat.blt d X.n=true) (hx:ev E x=some (.int kk a)) (hy:ev E y=some (.int k2 b)) (hb:0≤b) (hz:a.fdiv (2 ^ (min b.toNat kk.bits))=z) (hk:AtL X ops os k ((d,.int kk z)::E) ds H) :
  AtL X ops (⟨some d,.binOp .shr tx x y tz,ty,pos,after,g⟩::os) k E ds H :=
 zai (zCU hx hy hb hz) hg hd hk
theorem zA5 (hx:ev E x=some (.int kk a)) (hy:ev E y=some (.int kk b)) (hz:kk.wrap ((BitVec.ofInt kk.bits a &&& BitVec.ofInt kk.bits b).toNat:Int)=z):Does X E H (.binOp .and tx x y tz) (Is (.int kk z) H) :=
 zcM hx hy (fun w => by simp_all [eqGuard,binOp,Op.intBits])
theorem zpZ (hg:Wd X ops E g) (hd:Nat.blt d X.n=true) (hx:ev E x=some (.int kk a)) (hy:ev E y=some (.int kk b)) (hz:kk.wrap ((BitVec.ofInt kk.bits a &&& BitVec.ofInt kk.bits b).toNat:Int)=z) (hk:AtL X ops os k ((d,.int kk z)::E) ds H) :
  AtL X ops (⟨some d,.binOp .and tx x y tz,ty,pos,after,g⟩::os) k E ds H :=
 zai (zA5 hx hy hz) hg hd hk
theorem zyv (hx:ev E x=some (.int kk a)) (hy:ev E y=some (.int kk b)) (hz:kk.wrap ((BitVec.ofInt kk.bits a ||| BitVec.ofInt kk.bits b).toNat:Int)=z):Does X E H (.binOp .or tx x y tz) (Is (.int kk z) H) :=
 zcM hx hy (fun w => by simp_all [eqGuard,binOp,Op.intBits])
theorem zdp (hg:Wd X ops E g) (hd:Nat.blt d X.n=true) (hx:ev E x=some (.int kk a)) (hy:ev E y=some (.int kk b)) (hz:kk.wrap ((BitVec.ofInt kk.bits a ||| BitVec.ofInt kk.bits b).toNat:Int)=z) (hk:AtL X ops os k ((d,.int kk z)::E) ds H) :
  AtL X ops (⟨some d,.binOp .or tx x y tz,ty,pos,after,g⟩::os) k E ds H :=
 zai (zyv hx hy hz) hg hd hk
theorem zC0 (hx:ev E x=some (.int kk a)) (hy:ev E y=some (.int kk b)):Does X E H (.binOp .lss tx x y tz) (Is (.bool (decide (a < b))) H) :=
 zcM hx hy (fun w => by simp [eqGuard,binOp,Op.intCmp])
theorem zop (hg:Wd X ops E g) (hd:Nat.blt d X.n=true) (hx:ev E x=some (.int kk a)) (hy:ev E y=some (.int kk b)) (hk:AtL X ops os k ((d,.bool (decide (a < b)))::E) ds H) :
  AtL X ops (⟨some d,.binOp .lss tx x y tz,ty,pos,after,g⟩::os) k E ds H :=
 zai (zC0 hx hy) hg hd hk
theorem zC1 (hx:ev E x=some (.int kk a)) (hy:ev E y=some (.int kk b)):Does X E H (.binOp .leq tx x y tz) (Is (.bool (decide (a≤b))) H) :=
 zcM hx hy (fun w => by simp [eqGuard,binOp,Op.intCmp])
theorem zA9 (hg:Wd X ops E g) (hd:Nat.blt d X.n=true) (hx:ev E x=some (.int kk a)) (hy:ev E y=some (.int kk b)) (hk:AtL X ops os k ((d,.bool (decide (a≤b)))::E) ds H) :
  AtL X ops (⟨some d,.binOp .leq tx x y tz,ty,pos,after,g⟩::os) k E ds H :=
 zai (zC1 hx hy) hg hd hk
theorem zuQ (hx:ev E x=some (.int kk a)) (hy:ev E y=some (.int kk b)):Does X E H (.binOp .gtr tx x y tz) (Is (.bool (decide (b < a))) H) :=
 zcM hx hy (fun w => by simp [eqGuard,binOp,Op.intCmp])
theorem zuW (hg:Wd X ops E g) (hd:Nat.blt d X.n=true) (hx:ev E x=some (.int kk a)) (hy:ev E y=some (.int kk b)) (hk:AtL X ops os k ((d,.bool (decide (b < a)))::E) ds H) :
  AtL X ops (⟨some d,.binOp .gtr tx x y tz,ty,pos,after,g⟩::os) k E ds H :=
 zai (zuQ hx hy) hg hd hk
theorem zyu (hx:ev E x=some (.int kk a)) (hy:ev E y=some (.int kk b)):Does X E H (.binOp .geq tx x y tz) (Is (.bool (decide (b≤a))) H) :=
 zcM hx hy (fun w => by simp [eqGuard,binOp,Op.intCmp])
theorem zBb (hg:Wd X ops E g) (hd:Nat.blt d X.n=true) (hx:ev E x=some (.int kk a)) (hy:ev E y=some (.int kk b)) (hk:AtL X ops os k ((d,.bool (decide (b≤a)))::E) ds H) :
  AtL X ops (⟨some d,.binOp .geq tx x y tz,ty,pos,after,g⟩::os) k E ds H :=
 zai (zyu hx hy) hg hd hk
theorem zhY (hx:ev E x=some (.int kk a)) (hy:ev E y=some (.int kk b)):Does X E H (.binOp .eql tx x y tz) (Is (.bool (decide (a=b))) H) :=
 zcM hx hy (fun w => by simp [eqGuard,binOp,Op.intCmp]; rfl)
theorem zBc (hg:Wd X ops E g) (hd:Nat.blt d X.n=true) (hx:ev E x=some (.int kk a)) (hy:ev E y=some (.int kk b)) (hk:AtL X ops os k ((d,.bool (decide (a=b)))::E) ds H) :
  AtL X ops (⟨some d,.binOp .eql tx x y tz,ty,pos,after,g⟩::os) k E ds H :=
 zai (zhY hx hy) hg hd hk
theorem zCY (hx:ev E x=some (.int kk a)) (hy:ev E y=some (.int kk b)):Does X E H (.binOp .neq tx x y tz) (Is (.bool (!decide (a=b))) H) :=
 zcM hx hy (fun w => by simp [eqGuard,binOp,Op.intCmp]; rfl)
theorem zA8 (hg:Wd X ops E g) (hd:Nat.blt d X.n=true) (hx:ev E x=some (.int kk a)) (hy:ev E y=some (.int kk b)) (hk:AtL X ops os k ((d,.bool (!decide (a=b)))::E) ds H) :
  AtL X ops (⟨some d,.binOp .neq tx x y tz,ty,pos,after,g⟩::os) k E ds H :=
 zai (zCY hx hy) hg hd hk
end ints
section strings
variable {tx tz:TypeId}{x y:Operand}{a b:yB}
theorem zC2 (hx:ev E x=some (str a)) (hy:ev E y=some (str b)):Does X E H (.binOp .eql tx x y tz) (Is (.bool (decide (a=b))) H) :=
 zcM hx hy (fun w => by simp [str,eqGuard,binOp_string_eql,zcu,zjo])
theorem zfb (hg:Wd X ops E g) (hd:Nat.blt d X.n=true) (hx:ev E x=some (str a)) (hy:ev E y=some (str b)) (hk:AtL X ops os k ((d,.bool (decide (a=b)))::E) ds H) :
  AtL X ops (⟨some d,.binOp .eql tx x y tz,ty,pos,after,g⟩::os) k E ds H :=
 zai (zC2 hx hy) hg hd hk
theorem zCX (hx:ev E x=some (str a)) (hy:ev E y=some (str b)):Does X E H (.binOp .neq tx x y tz) (Is (.bool (!decide (a=b))) H) :=
 zcM hx hy (fun w => by simp [str,eqGuard,binOp_string_neq,zcu,zjo])
theorem zjy (hg:Wd X ops E g) (hd:Nat.blt d X.n=true) (hx:ev E x=some (str a)) (hy:ev E y=some (str b)) (hk:AtL X ops os k ((d,.bool (!decide (a=b)))::E) ds H) :
  AtL X ops (⟨some d,.binOp .neq tx x y tz,ty,pos,after,g⟩::os) k E ds H :=
 zai (zCX hx hy) hg hd hk
theorem zkI (hx:ev E x=some (str a)) (hy:ev E y=some (str b)) (hl:a.length + b.length≤9223372036854775807):Does X E H (.binOp .add tx x y tz) (Is (str (a++b)) H) :=
 zcM hx hy (fun w => by
  have h:¬ ((9223372036854775807:Int) < ((a.length:Int) + (b.length:Int))):=by omega
  have e:(ByteArray.mk ⟨a⟩++ByteArray.mk ⟨b⟩)=ByteArray.mk ⟨a++b⟩:=by
   apply zFQ
   simp
  simp_all [str,eqGuard,binOp,Op.stringOp,IntKind.max,IntKind.bits,IntKind.signed,zba])
theorem zos (hg:Wd X ops E g) (hd:Nat.blt d X.n=true) (hx:ev E x=some (str a)) (hy:ev E y=some (str b)) (hl:a.length + b.length≤9223372036854775807) (hk:AtL X ops os k ((d,str (a++b))::E) ds H) :
  AtL X ops (⟨some d,.binOp .add tx x y tz,ty,pos,after,g⟩::os) k E ds H :=
 zai (zkI hx hy hl) hg hd hk
end strings
theorem zuK {b:Bool}(hx:ev E x=some (.bool b)):Does X E H (.unOp .not tx x) (Is (.bool (!b)) H) :=
 zan rfl (fun dst ty pos after g ρ w hρ => by simp_all [execOp,Op.unary])
theorem zoo {b:Bool}(hg:Wd X ops E g) (hd:Nat.blt d X.n=true) (hx:ev E x=some (.bool b)) (hk:AtL X ops os k ((d,.bool (!b))::E) ds H) :
  AtL X ops (⟨some d,.unOp .not tx x,ty,pos,after,g⟩::os) k E ds H :=
 zai (zuK hx) hg hd hk
theorem zyt (hx:ev E x=some (.int kk a)) (hz:kk.wrap (0 - a)=z):Does X E H (.unOp .neg tx x) (Is (.int kk z) H) :=
 zan rfl (fun dst ty pos after g ρ w hρ => by
  simp_all [execOp,Op.unary,Op.intArith])
theorem AtL.neg (hg:Wd X ops E g) (hd:Nat.blt d X.n=true) (hx:ev E x=some (.int kk a)) (hz:kk.wrap (0 - a)=z) (hk:AtL X ops os k ((d,.int kk z)::E) ds H) :
  AtL X ops (⟨some d,.unOp .neg tx x,ty,pos,after,g⟩::os) k E ds H :=
 zai (zyt hx hz) hg hd hk
theorem zol {a b:Value}{t:Bool}(hs:binOp .eql tx a b=(do pure (.bool (← Op.equal tx a b)):Sem Value)) (hgd:eqGuard .eql tx x y a b=pure ()) (hx:ev E x=some a) (hy:ev E y=some b) (he:∀ w,(Op.equalIn (9999 + 1) tx a b).run X.P w = .ok t w):Does X E H (.binOp .eql tx x y tz) (Is (.bool t) H) :=
 zcM hx hy (fun w => by
  have:(Op.equal tx a b).run X.P w = .ok t w:=he w
  simp_all)
theorem zoh {a b:Value}{t:Bool}(hs:binOp .neq tx a b=(do pure (.bool (!(← Op.equal tx a b))):Sem Value)) (hgd:eqGuard .neq tx x y a b=pure ()) (hx:ev E x=some a) (hy:ev E y=some b) (he:∀ w,(Op.equalIn (9999 + 1) tx a b).run X.P w = .ok t w):Does X E H (.binOp .neq tx x y tz) (Is (.bool (!t)) H) :=
 zcM hx hy (fun w => by
  have:(Op.equal tx a b).run X.P w = .ok t w:=he w
  simp_all)
theorem zlF (hu:X.P.underlying tx=some (.slice e)) (hx:ev E x=some (.slice A n c)) (hy:ev E y=some (.slice none 0 0)):Does X E H (.binOp .eql tx x y tz) (Is (.bool A.isNone) H) :=
 zol rfl rfl hx hy (fun w => run_equalIn_slice_nil w _ _ _ _ _ _ hu)
theorem zcy (hu:X.P.underlying tx=some (.slice e)) (hg:Wd X ops E g) (hd:Nat.blt d X.n=true) (hx:ev E x=some (.slice A n c)) (hy:ev E y=some (.slice none 0 0)) (hk:AtL X ops os k ((d,.bool A.isNone)::E) ds H) :
  AtL X ops (⟨some d,.binOp .eql tx x y tz,ty,pos,after,g⟩::os) k E ds H :=
 zai (zlF hu hx hy) hg hd hk
theorem zd9 (hu:P.underlying t=some (.pointer e)):(Op.equalIn (n + 1) t (.pointer A) (.pointer none)).run P w = .ok A.isNone w:=by
 cases A with
 | none => simp [Op.equalIn,run_underlying hu]
 | some p => simp [Op.equalIn,run_underlying hu]
theorem zjO {u:TypeId}{v:Value}(hu:P.underlying t=some (.interface ms)):(Op.equalIn (n + 1) t (.iface u v) .nilIface).run P w = .ok false w:=by
 simp [Op.equalIn,run_underlying hu]
theorem zok (hu:X.P.underlying tx=some (.pointer e)) (hx:ev E x=some (.pointer A)) (hy:ev E y=some (.pointer none)):Does X E H (.binOp .eql tx x y tz) (Is (.bool A.isNone) H) :=
 zol (by cases A <;> rfl) rfl hx hy (fun w => zd9 hu)
theorem zcN (hu:X.P.underlying tx=some (.pointer e)) (hg:Wd X ops E g) (hd:Nat.blt d X.n=true) (hx:ev E x=some (.pointer A)) (hy:ev E y=some (.pointer none)) (hk:AtL X ops os k ((d,.bool A.isNone)::E) ds H) :
  AtL X ops (⟨some d,.binOp .eql tx x y tz,ty,pos,after,g⟩::os) k E ds H :=
 zai (zok hu hx hy) hg hd hk
theorem ze7 (hx:ev E x=some (.pointer (some p))):Does X E H (.nilCheck x) (Is (.pointer (some p)) H) :=
 zan rfl (fun dst ty pos after g ρ w hρ => by simp_all [execOp])
theorem zci (hg:Wd X ops E g) (hd:Nat.blt d X.n=true) (hx:ev E x=some (.pointer (some p))) (hk:AtL X ops os k ((d,.pointer (some p))::E) ds H) :
  AtL X ops (⟨some d,.nilCheck x,ty,pos,after,g⟩::os) k E ds H :=
 zai (ze7 hx) hg hd hk
theorem zm9 {v:Value}(hx:ev E x=some (.iface t v)):Does X E H (.nilCheck x) (Is (.iface t v) H) :=
 zan rfl (fun dst ty pos after g ρ w hρ => by simp_all [execOp])
theorem zna {c:Array Value}(hx:ev E x=some (.func (.func f) u c)):Does X E H (.nilCheck x) (Is (.func (.func f) u c) H) :=
 zan rfl (fun dst ty pos after g ρ w hρ => by simp_all [execOp])
theorem Do.extract {vs:Array Value}{v:Value}(hx:ev E x=some (.tuple vs)) (hi:vs[i]? = some v):Does X E H (.extract x i) (Is (v) H) :=
 zan rfl (fun dst ty pos after g ρ w hρ => by simp_all [execOp,Instr.extract])
theorem AtL.extract {vs:Array Value}{v:Value}(hg:Wd X ops E g) (hd:Nat.blt d X.n=true) (hx:ev E x=some (.tuple vs)) (hi:vs[i]? = some v) (hk:AtL X ops os k ((d,v)::E) ds H) :
  AtL X ops (⟨some d,.extract x i,ty,pos,after,g⟩::os) k E ds H :=
 zai (Do.extract hx hi) hg hd hk
def evs (E:Env):List Operand→Option (List Value)
 | [] => some []
 | x::xs => match ev E x with
  | some v => (evs E xs).map (v::·)
  | none => none
theorem zz4 {xs:List Operand}(hρ:∀ x v,ev E x=some v→ρ x=v) (h:evs E xs=some vs):xs.map ρ=vs:=by
 induction xs generalizing vs with
 | nil => grind [evs]
 | cons x xs ih =>
  simp only [evs] at h
  cases hx:ev E x with
  | none => grind
  | some v =>
   rw [hx] at h
   cases hr:evs E xs with
   | none => grind
   | some us =>
    grind
theorem zcp (hρ:∀ x v,ev E x=some v→ρ x=v) (h:evs E xs.toList=some vs):xs.map ρ=vs.toArray:=by
 grind [Array.ext',Array.toList_map,zz4]
theorem zjt {fn:Fn}{u c:Array Operand}{cs:List Value}(hu:evs E u.toList=some us) (hc:evs E c.toList=some cs):Does X E H (.makeFunc fn u c) (Is (.func fn us.toArray cs.toArray) H) :=
 zan rfl (fun dst ty pos after g ρ w hρ => by simp [execOp,Instr.makeFunc,zcp hρ hu,zcp hρ hc])
theorem zbV {fn:Fn}{u c:Array Operand}{cs:List Value}(hg:Wd X ops E g) (hd:Nat.blt d X.n=true) (hu:evs E u.toList=some us) (hc:evs E c.toList=some cs) (hk:AtL X ops os k ((d,.func fn us.toArray cs.toArray)::E) ds H) :
  AtL X ops (⟨some d,.makeFunc fn u c,ty,pos,after,g⟩::os) k E ds H :=
 zai (zjt hu hc) hg hd hk
theorem zhW {dd:TypeDesc}{v:Value}(hu:X.P.underlying t=some dd) (hnd:(match dd with | .interface _ => false | _ => true)=true) (hx:ev E x=some v):Does X E H (.makeInterface t x) (Is (.iface t v) H) :=
 zan rfl (fun dst ty pos after g ρ w hρ => by cases dd <;> simp_all [execOp,hρ _ _ hx,Instr.makeInterface,run_underlying hu])
theorem zdx {dd:TypeDesc}{v:Value}(hu:X.P.underlying t=some dd) (hnd:(match dd with | .interface _ => false | _ => true)=true) (hg:Wd X ops E g) (hd:Nat.blt d X.n=true) (hx:ev E x=some v) (hk:AtL X ops os k ((d,.iface t v)::E) ds H) :
  AtL X ops (⟨some d,.makeInterface t x,ty,pos,after,g⟩::os) k E ds H :=
 zai (zhW hu hnd hx) hg hd hk
theorem zda {sd:TypeDesc}(hs:X.P.underlying src=some sd) (hu:X.P.underlying dst=some (.int kk)) (hx:ev E x=some (.int k2 a)) (hz:kk.wrap a=z):Does X E H (.convert src dst x) (Is (.int kk z) H) :=
 zan rfl (fun dst ty pos after g ρ w hρ => by simp [execOp,hρ _ _ hx,convert,run_underlying hs,run_underlying hu,Conv.intToInt,hz])
theorem zay {sd:TypeDesc}(hs:X.P.underlying src=some sd) (hu:X.P.underlying dst=some (.int kk)) (hg:Wd X ops E g) (hd:Nat.blt d X.n=true) (hx:ev E x=some (.int k2 a)) (hz:kk.wrap a=z)
  (hk:AtL X ops os k ((d,.int kk z)::E) ds H) :
  AtL X ops (⟨some d,.convert src dst x,ty,pos,after,g⟩::os) k E ds H :=
 zai (zda hs hu hx hz) hg hd hk
theorem zcv {l:yB}{i:Int}(j:Nat) (hij:i=(j:Int)) (hj:j < l.length) (hu:X.P.underlying xt=some .string) (hx:ev E x=some (str l)) (hi:ev E ix=some (.int kk i)):Does X E H (.index xt x ix) (Is (byt (l.getD j 0)) H) :=
 zan rfl (fun dst ty pos after g ρ w hρ => by
  simp_all [str,execOp,Instr.index,asIntOf,run_underlying,zCD,byt])
theorem zbD {l:yB}{i:Int}(j:Nat) (hij:i=(j:Int)) (hj:j < l.length) (hu:X.P.underlying xt=some .string) (hg:Wd X ops E g) (hd:Nat.blt d X.n=true) (hx:ev E x=some (str l)) (hi:ev E ix=some (.int kk i))
  (hk:AtL X ops os k ((d,byt (l.getD j 0))::E) ds H) :
  AtL X ops (⟨some d,.index xt x ix,ty,pos,after,g⟩::os) k E ds H :=
 zai (zcv j hij hj hu hx hi) hg hd hk
def subl (l:List α) (i j:Nat):List α:=(l.drop i).take (j - i)
theorem zal {l:List α}(hj:j≤l.length):(subl l i j).length=j - i:=by grind [subl]
def za8 (E:Env):Option Operand→Nat→Nat→Prop
 | none,dflt,v => v=dflt
 | some x,_,v => ∃ kk z,ev E x=some (.int kk z)∧z=(v:Int)
theorem zfF :za8 E none n n:=rfl
theorem zab {v:Nat}(h:ev E x=some (.int kk z)) (hz:z=(v:Int)):za8 E (some x) n v:=⟨kk,z,h,hz⟩
theorem zcZ {l:yB}(i j:Nat) (h1:za8 E lo 0 i) (h2:za8 E hi l.length j) (hij:i≤j) (hj:j≤l.length) (hu:X.P.underlying xt=some .string) (hx:ev E x=some (str l)):Does X E H (.slice xt x lo hi none) (Is (str (subl l i j)) H) :=
 zan rfl (fun dst ty pos after g ρ w hρ => by
  have e:(ByteArray.mk ⟨l⟩).extract i j=ByteArray.mk ⟨subl l i j⟩:=by
   apply zFQ
   simp [subl,zFI,zEC]
  have hb1:(Instr.sliceBounds false l.length l.length (lo.map ρ) (hi.map ρ) none).run X.P w = .ok (i,j,l.length) w:=by
   unfold Instr.sliceBounds
   cases lo with
   | none =>
    cases h1
    cases hi with
    | none => cases h2; simp
    | some y =>
     obtain ⟨k2,z2,e2,rfl⟩:=h2
     simp_all [Instr.sliceBound,asIntOf]
   | some x1 =>
    obtain ⟨k1,z1,e1,rfl⟩:=h1
    cases hi with
    | none => cases h2; simp_all [Instr.sliceBound,asIntOf]
    | some y =>
     obtain ⟨k2,z2,e2,rfl⟩:=h2
     simp_all [Instr.sliceBound,asIntOf]
  have hsz:(ByteArray.mk ⟨l⟩).size=l.length:=rfl
  simp [str,execOp,hρ _ _ hx,Instr.sliceAt,Instr.slice,run_underlying hu,hsz,hb1,e])
theorem zb7 {l:yB}(i j:Nat) (h1:za8 E lo 0 i) (h2:za8 E hi l.length j) (hij:i≤j) (hj:j≤l.length) (hu:X.P.underlying xt=some .string) (hg:Wd X ops E g) (hd:Nat.blt d X.n=true) (hx:ev E x=some (str l))
  (hk:AtL X ops os k ((d,str (subl l i j))::E) ds H) :
  AtL X ops (⟨some d,.slice xt x lo hi none,ty,pos,after,g⟩::os) k E ds H :=
 zai (zcZ i j h1 h2 hij hj hu hx) hg hd hk
theorem zhB {l:yB}(hu:X.P.underlying t=some .string) (hx:ev E x=some (str l)):Does X E H (.call ⟨.builtin .len,#[x],#[t]⟩) (Is (int (l.length:Int)) H) :=
 zan rfl (fun dst ty pos after g ρ w hρ => by simp [str,execOp,resolve,invoke,builtin,hρ _ _ hx,Builtin.len_,run_underlying hu,goInt,zba])
theorem zbu {l:yB}(hu:X.P.underlying t=some .string) (hg:Wd X ops E g) (hd:Nat.blt d X.n=true) (hx:ev E x=some (str l)) (hk:AtL X ops os k ((d,int (l.length:Int))::E) ds H) :
  AtL X ops (⟨some d,.call ⟨.builtin .len,#[x],#[t]⟩,ty,pos,after,g⟩::os) k E ds H :=
 zai (zhB hu hx) hg hd hk
theorem zoj (hu:X.P.underlying t=some (.slice e)) (hx:ev E x=some (.slice A n c)):Does X E H (.call ⟨.builtin .len,#[x],#[t]⟩) (Is (int (n:Int)) H) :=
 zan rfl (fun dst ty pos after g ρ w hρ => by simp [execOp,resolve,invoke,builtin,hρ _ _ hx,Builtin.len_,run_underlying hu,goInt])
theorem zxH (hu:X.P.underlying t=some (.slice e)) (hg:Wd X ops E g) (hd:Nat.blt d X.n=true) (hx:ev E x=some (.slice A n c)) (hk:AtL X ops os k ((d,int (n:Int))::E) ds H) :
  AtL X ops (⟨some d,.call ⟨.builtin .len,#[x],#[t]⟩,ty,pos,after,g⟩::os) k E ds H :=
 zai (zoj hu hx) hg hd hk
theorem zA4 (hu:X.P.underlying t=some (.slice e)) (hx:ev E x=some (.slice A n c)):Does X E H (.call ⟨.builtin .cap,#[x],#[t]⟩) (Is (int (c:Int)) H) :=
 zan rfl (fun dst ty pos after g ρ w hρ => by simp [execOp,resolve,invoke,builtin,hρ _ _ hx,Builtin.cap_,run_underlying hu,goInt])
theorem zg7 (hu:X.P.underlying t=some (.slice e)) (hg:Wd X ops E g) (hd:Nat.blt d X.n=true) (hx:ev E x=some (.slice A n c)) (hk:AtL X ops os k ((d,int (c:Int))::E) ds H) :
  AtL X ops (⟨some d,.call ⟨.builtin .cap,#[x],#[t]⟩,ty,pos,after,g⟩::os) k E ds H :=
 zai (zA4 hu hx) hg hd hk
theorem zuL {b:Int}(hx:ev E x=some (.int kk a)) (hy:ev E y=some (.int kk b)):Does X E H (.call ⟨.builtin .min,#[x,y],ts⟩) (Is (.int kk (if b < a then b else a)) H) :=
 zan rfl (fun dst ty pos after g ρ w hρ => by simp_all [execOp,resolve,invoke,builtin,Builtin.min_,Builtin.min2,List.foldlM])
theorem AtL.min2 {b:Int}(hg:Wd X ops E g) (hd:Nat.blt d X.n=true) (hx:ev E x=some (.int kk a)) (hy:ev E y=some (.int kk b)) (hk:AtL X ops os k ((d,.int kk (if b < a then b else a))::E) ds H) :
  AtL X ops (⟨some d,.call ⟨.builtin .min,#[x,y],ts⟩,ty,pos,after,g⟩::os) k E ds H :=
 zai (zuL hx hy) hg hd hk
theorem zuM {b:Int}(hx:ev E x=some (.int kk a)) (hy:ev E y=some (.int kk b)):Does X E H (.call ⟨.builtin .max,#[x,y],ts⟩) (Is (.int kk (if a < b then b else a)) H) :=
 zan rfl (fun dst ty pos after g ρ w hρ => by simp_all [execOp,resolve,invoke,builtin,Builtin.max_,Builtin.max2,List.foldlM])
theorem AtL.max2 {b:Int}(hg:Wd X ops E g) (hd:Nat.blt d X.n=true) (hx:ev E x=some (.int kk a)) (hy:ev E y=some (.int kk b)) (hk:AtL X ops os k ((d,.int kk (if a < b then b else a))::E) ds H) :
  AtL X ops (⟨some d,.call ⟨.builtin .max,#[x,y],ts⟩,ty,pos,after,g⟩::os) k E ds H :=
 zai (zuM hx hy) hg hd hk
structure Body (P:Program) (f:FuncId):Prop where
  is:∃ fn,P.funcs[f]? = some fn∧(fn.name == "runtime.NumGoroutine")=false∧fn.body.isNone=false
theorem zcX (h:Body P f) (args:Array Value) (w:World):(callFunc f args).run P w = .ok (.enter f args) w:=by
 obtain ⟨fn,h1,h2,h3⟩:=h.is
 cases hb:fn.body with
 | none => grind
 | some c => simp_all [callFunc,Sem.run_bind,run_program,Result.andThen_ok,Option.isNone_some,zDy,zDU,Sem.run_pure]
def zAD (P:Program) (f:FuncId):Bool:=match P.funcs[f]? with
 | some fn => !(fn.name == "runtime.NumGoroutine") && !fn.body.isNone
 | none => false
theorem Body.of (h:zAD P f=true):Body P f:=by
 unfold zAD at h
 split at h
 ·rename_i fn hf
  simp only [zC9,zDQ] at h
  exact ⟨fn,hf,h.1,h.2⟩
 grind
section calls
variable {dst:Option Tmp}{R:Value→List Seg→Prop}
theorem zbo {args:List Value}(hb:Body X.P f) (hx:evs E xs.toList=some args) (hc:SCalls X.P f args X.w0 X.base H R):Does X E H (.call ⟨.value (.func f),xs,ts⟩) R :=
 zkG Z (fun dst ty pos after g ρ w hρ => by
  have hf:ρ (.func f) = .func (.func f) #[] #[]:=hρ _ _ rfl
  grind [execOp,resolve,Deferred.ofValue,zcp,invoke,zcX]) hc
theorem zge {args:List Value}(hb:Body X.P f) (hg:Wd X ops E g) (hd:zcq X.n dst=true) (hx:evs E xs.toList=some args) (hc:SCalls X.P f args X.w0 X.base H R)
  (hk:∀ v H',R v H'→AtL X ops os k (putE E dst v) ds H') :
  AtL X ops (⟨dst,.call ⟨.value (.func f),xs,ts⟩,ty,pos,after,g⟩::os) k E ds H :=
 AtL.of (zbo hb hx hc) hg hd hk
theorem zpV {c:Array Value}{args:List Value}(hb:Body X.P f) (hv:ev E x=some (.func (.func f) u c)) (hx:evs E xs.toList=some args) (ha:u.toList++args++c.toList=args') (hc:SCalls X.P f args' X.w0 X.base H R):Does X E H (.call ⟨.value x,xs,ts⟩) R :=
 zkG Z (fun dst ty pos after g ρ w hρ => by
  subst ha
  have e:u++args.toArray++c=(u.toList++args++c.toList).toArray:=by
   grind
  grind [List.append_assoc,execOp,resolve,Deferred.ofValue,zcp,invoke,zcX]) hc
theorem zcz {c:Array Value}{args:List Value}(hb:Body X.P f) (hg:Wd X ops E g) (hd:zcq X.n dst=true) (hv:ev E x=some (.func (.func f) u c)) (hx:evs E xs.toList=some args)
  (ha:u.toList++args++c.toList=args') (hc:SCalls X.P f args' X.w0 X.base H R)
  (hk:∀ v H',R v H'→AtL X ops os k (putE E dst v) ds H') :
  AtL X ops (⟨dst,.call ⟨.value x,xs,ts⟩,ty,pos,after,g⟩::os) k E ds H :=
 AtL.of (zpV hb hv hx ha hc) hg hd hk
end calls
end
def Cell (w0:World) (base:Nat) (H:List Seg) (p:Addr) (v:Value):Prop:=∀ w,Sep w0 base w H→w.cell? p=some v
theorem zaO (b off i:Nat):(⟨b,off,none⟩:Addr).add i=⟨b,off + i,none⟩:=by
 grind [Addr.add]
theorem Sep.at_ (S:Sep w0 base w H) {o:Obj}(hi:H[i]? = some s) (hj:s[j]? = some (b,o)):w.heap[b]? = some o∧base≤b:=by
 have hm:(b,o) ∈ H.flatten:=zD9.2 ⟨s,zDd.2 ⟨i,hi⟩,zDd.2 ⟨j,hj⟩⟩
 exact ⟨(S.mem _ hm).2,(S.mem _ hm).1⟩
section
variable {w0:World}{base:Nat}{H:List Seg}
theorem Cell.own {k:Nat}{fr:Nat×Nat}{v:Value}(i j:Nat) (hi:H[i]? = some s) (hj:s[j]? = some (b,.cells cs e fr)) (hk:cs[k]? = some v):Cell w0 base H ⟨b,k,none⟩ v :=
 fun w S => by rw [cell_of_row w b k cs e fr (S.at_ hi hj).1]; exact hk
theorem Cell.skip {v:Value}(n:Nat) (h:Cell w0 base (H.drop n) p v):Cell w0 base H p v:=fun w S => h w (S.pick [] n rfl)
end
structure Ty (α:Type) where
  val:α→Value
  sz:Nat
  ok:∀ x,(val x).cells.size=sz
  plain:∀ x c,c ∈ (val x).cells.toList→c.oneCell' = true
def Ty.cells (T:Ty α) (l:List α):List Value:=l.flatMap fun x => (T.val x).cells.toList
section ty
variable {α:Type}{T:Ty α}
theorem zaC (l:List α):(T.cells l).length=l.length * T.sz:=by
 induction l with
 | nil => simp [Ty.cells]
 | cons x l ih =>
  simp only [Ty.cells,zFv,zC6,zC7,zEu,T.ok] at ih ⊢
  grind
theorem zaX (l r:List α):T.cells (l++r)=T.cells l++T.cells r:=by simp [Ty.cells]
theorem zhV {l:List α}{x:α}{u:Value}(hx:l[i]? = some x) (hu:(T.val x).cells[j]? = some u):(T.cells l)[i * T.sz + j]? = some u:=by
 induction l generalizing i with
 | nil => grind
 | cons y l ih =>
  have hcons:T.cells (y::l)=(T.val y).cells.toList++T.cells l:=by simp [Ty.cells]
  rw [hcons]
  have hly:(T.val y).cells.toList.length=T.sz:=by rw [zEu,T.ok]
  cases i with
  | zero =>
   grind
  | succ i =>
   grind
theorem zep {l:List α}:∀ c ∈ T.cells l,c.oneCell' = true:=by
 intro c hc
 obtain ⟨x,_,hx⟩:=List.mem_flatMap.1 hc
 exact T.plain x c hx
end ty
def tyB:Ty UInt8:={ val:=byt,sz:=1,ok:=fun _ => rfl,plain:=fun x c hc => by simp [byt,Value.cells] at hc; subst hc; rfl }
def tyI:Ty Int:={ val:=int,sz:=1,ok:=fun _ => rfl,plain:=fun x c hc => by simp [int,Value.cells] at hc; subst hc; rfl }
def tyS:Ty yB:={ val:=str,sz:=1,ok:=fun _ => rfl,plain:=fun x c hc => by simp [str,Value.cells] at hc; subst hc; rfl }
def frOut (fr:Nat×Nat) (n:Nat):Prop:=∀ j,j < n→(decide (fr.1≤j) && decide (j < fr.2))=false
theorem zaY (n:Nat):frOut (0,0) n:=fun j _ => by simp
theorem frOut.mono {fr:Nat×Nat}(h:frOut fr n) (hm:m≤n):frOut fr m:=fun j hj => h j (zFL hj hm)
structure Rd {α:Type}(T:Ty α) (w0:World) (base:Nat) (H:List Seg) (A:Option Addr) (C:Nat) (l:List α):Prop where
  le:l.length≤C
  cap:C≤9223372036854775807
  nil:A=none→C=0
  cells:l≠[]→∃ b off,A=some ⟨b,off,none⟩∧∀ w,Sep w0 base w H→∀ j u,(T.cells l)[j]? = some u→w.cell? ⟨b,off + j,none⟩=some u
def OwnR (T:Ty α) (e:TypeId) (A:Option Addr) (l r:List α) (s:Seg):Prop :=
 (A=none∧l=[]∧r=[]∧s=[]) ∨
 ∃ g pre post fr,A=some ⟨g,pre.length * T.sz,none⟩∧s=[(g,.cells (T.cells (pre++l++r++post)).toArray e fr)]∧frOut fr ((pre++l++r++post).length * T.sz)∧l.length + r.length≤9223372036854775807
def Own (T:Ty α) (e:TypeId) (A:Option Addr) (C:Nat) (l:List α) (s:Seg):Prop:=∃ r,C=l.length + r.length∧OwnR T e A l r s
theorem OwnR.own {T:Ty α}{l r:List α}(h:OwnR T e A l r s):Own T e A (l.length + r.length) l s:=⟨r,rfl,h⟩
theorem Own.nil (T:Ty α) (e:TypeId):Own T e none 0 [] []:=⟨[],rfl,.inl ⟨rfl,rfl,rfl,rfl⟩⟩
section views
variable {α:Type}{T:Ty α}{w0:World}{base:Nat}{H:List Seg}{A:Option Addr}{C:Nat}{l r:List α}{e:TypeId}{s:Seg}
theorem Rd.skip (n:Nat) (h:Rd T w0 base (H.drop n) A C l):Rd T w0 base H A C l :=
 ⟨h.le,h.cap,h.nil,fun hl => let ⟨b,off,hA,hc⟩:=h.cells hl; ⟨b,off,hA,fun w S => hc w (S.pick [] n rfl)⟩⟩
theorem Rd.nil_:Rd T w0 base H none 0 []:=⟨zDe _,by omega,fun _ => rfl,fun h => absurd rfl h⟩
theorem OwnR.rd (h:OwnR T e A l r s) (hi:H[i]? = some s):Rd T w0 base H A (l.length + r.length) l:=by
 rcases h with ⟨rfl,rfl,rfl,rfl⟩ | ⟨g,pre,post,fr,rfl,rfl,hf,hm⟩
 ·exact Rd.nil_
 ·refine ⟨by omega,hm,(fun h => by cases h),fun _ => ⟨g,_,Z,fun w S j u hu => ?_⟩⟩
  have hb:=(S.at_ hi (j:=0) rfl).1
  rw [cell_of_row w g _ _ e fr hb]
  have hj:=(zDv.1 hu).1
  rw [zEn,zaX,zaX,zaX,← zaC (T:=T) pre]
  grind
theorem Own.rd (h:Own T e A C l s) (hi:H[i]? = some s):Rd T w0 base H A C l:=by
 obtain ⟨r,rfl,h⟩:=h
 exact h.rd hi
theorem Own.cap_le (h:Own T e A C l s):C≤9223372036854775807:=by
 obtain ⟨r,rfl,h⟩:=h
 rcases h with ⟨_,rfl,rfl,_⟩ | ⟨_,_,_,_,_,_,_,h⟩
 ·simp
 omega
theorem Own.le_cap (h:Own T e A C l s):l.length≤C:=by
 obtain ⟨r,rfl,h⟩:=h
 omega
def zdt (A:Option Addr) (k:Nat):Addr:=(A.getD default).add k
theorem Rd.cell_at (h:Rd T w0 base H A C l) {x:α}{u:Value}(hx:l[i]? = some x) (hu:(T.val x).cells[j]? = some u):Cell w0 base H ((zdt A (i * T.sz)).add j) u:=by
 obtain ⟨b,off,rfl,hc⟩:=h.cells (by grind)
 intro w S
 simp_all [zdt,zEg,zaO,zD3,zhV]
theorem zaL (h:Rd T w0 base H A C l) {x:α}(hx:l[i]? = some x) (h1:(T.val x).cells = #[T.val x]):Cell w0 base H (zdt A (i * T.sz)) (T.val x) :=
 h.cell_at hx (j:=0) (by grind)
theorem getD_some {l:List α}(d:α) (h:i < l.length):l[i]? = some (l.getD i d):=by
 grind
end views
section
variable {X:Pt}{k:List Item}{E:Env}{ds:List Deferred}{H:List Seg}{ops:Array Oper}{os:List Oper}
  {d:Nat}{ty:TypeId}{pos:String}{after:Array Edge}{g:Option (Nat×Bool)}
def zgq (P:Program) (t:TypeId):Bool:=match P.underlying t with
 | some (.struct _) | some (.array _ _) | none => false
 | some _ => true
theorem zhr (h:zgq P t=true) (w:World):(isAgg t).run P w = .ok false w:=by
 unfold zgq at h
 cases hu:P.underlying t with
 | none => grind
 | some dd =>
  rw [hu] at h
  unfold isAgg
  simp only [Sem.run_bind,run_underlying hu,Result.andThen_ok]
  cases dd <;> first | rfl | cases h
theorem zdV {v:Value}(hf:zgq X.P t=true) (hx:ev E x=some (.pointer (some p))) (hc:Cell X.w0 X.base H p v):Does X E H (.load t x) (Is v H) :=
 zaq rfl (fun dst ty pos after g ρ w hρ S => ⟨v,w,H,by
  simp [execOp,hρ _ _ hx,Instr.loadAt,Instr.sureAddr,loadVar,zhr hf,hc w S],S,rfl,rfl⟩)
theorem zax {v:Value}(hf:zgq X.P t=true) (hg:Wd X ops E g) (hd:Nat.blt d X.n=true) (hx:ev E x=some (.pointer (some p))) (hc:Cell X.w0 X.base H p v) (hk:AtL X ops os k ((d,v)::E) ds H) :
  AtL X ops (⟨some d,.load t x,ty,pos,after,g⟩::os) k E ds H:=zai (zdV hf hx hc) hg hd hk
def aggN (P:Program) (t:TypeId):Option Nat:=match P.underlying t with
 | some (.struct _) | some (.array _ _) => (P.info? t).map (·.size)
 | _ => none
theorem zfz {t:Nat}(h:aggN P t=some n) (w:World):(isAgg t).run P w = .ok true w∧(sizeOf t).run P w = .ok n w:=by
 unfold aggN at h
 cases hu:P.underlying t with
 | none => grind
 | some dd =>
  rw [hu] at h
  cases hi:P.info? t with
  | none => grind
  | some i =>
   rw [hi] at h
   constructor
   ·unfold isAgg
    simp only [Sem.run_bind,run_underlying hu,Result.andThen_ok]
    cases dd <;> first | rfl | grind
   ·cases dd <;> simp at h <;> simp [sizeOf,typeInfo,hi,h]
theorem ze8 {t:Nat}{cs:List Value}(hf:aggN X.P t=some n) (hx:ev E x=some (.pointer (some p))) (hn:cs.length=n) (hc:∀ j v,cs[j]? = some v→Cell X.w0 X.base H (p.add j) v):Does X E H (.load t x) (Is (.agg cs.toArray) H) :=
 zaq rfl (fun dst ty pos after g ρ w hρ S => ⟨.agg cs.toArray,w,H,by
  subst hn
  simp [execOp,hρ _ _ hx,Instr.loadAt,Instr.sureAddr,loadVar,(zfz hf w).1,(zfz hf w).2,run_loadCells_list w p cs (fun j v hv => hc j v hv w S)],S,rfl,rfl⟩)
theorem zni {t:Nat}{cs:List Value}(hf:aggN X.P t=some n) (hg:Wd X ops E g) (hd:Nat.blt d X.n=true) (hx:ev E x=some (.pointer (some p))) (hn:cs.length=n)
  (hc:∀ j v,cs[j]? = some v→Cell X.w0 X.base H (p.add j) v) (hk:AtL X ops os k ((d,.agg cs.toArray)::E) ds H) :
  AtL X ops (⟨some d,.load t x,ty,pos,after,g⟩::os) k E ds H:=zai (ze8 hf hx hn hc) hg hd hk
theorem zxD {T:Ty α}{t n:Nat}{l:List α}{y:α}(hr:Rd T X.w0 X.base H A C l) (hy:l[i]? = some y) (hv:T.val y = .agg cs) (hf:aggN X.P t=some T.sz)
  (hx:ev E x=some (.pointer (some (zdt A (i * T.sz))))):Does X E H (.load t x) (Is (T.val y) H):=by
 have hcs:(T.val y).cells=cs:=by rw [hv]; rfl
 have hn:=T.ok y
 rw [hcs] at hn
 have:=ze8 (X:=X) (E:=E) (H:=H) (cs:=cs.toList) hf hx kQ (fun j v hj => hr.cell_at hy (by grind))
 simp_all
theorem zaM {T:Ty α}{t n:Nat}{l:List α}{y:α}(hr:Rd T X.w0 X.base H A C l) (hy:l[i]? = some y) (hv:T.val y = .agg cs) (hf:aggN X.P t=some T.sz) (hg:Wd X ops E g) (hd:Nat.blt d X.n=true)
  (hx:ev E x=some (.pointer (some (zdt A (i * T.sz))))) (hk:AtL X ops os k ((d,T.val y)::E) ds H):AtL X ops (⟨some d,.load t x,ty,pos,after,g⟩::os) k E ds H:=zai (zxD (n:=n) hr hy hv hf hx) hg hd hk
def za5 (P:Program) (t n:Nat):Bool:=match P.info? t with
 | some i => Nat.beq i.size n
 | none => false
theorem zb4 {t:Nat}(h:za5 P t n=true) (w:World):(sizeOf t).run P w = .ok n w:=by
 unfold za5 at h
 cases hi:P.info? t with
 | none => grind
 | some i =>
  simp_all [sizeOf,typeInfo,zD6]
theorem za6 (P:Program) (g o:Nat) (t:TypeId) (fr:Nat×Nat):∀ (vs:List Value) (i:Nat) (cur:Array Value) (w:World),w.heap[g]? = some (.cells cur t fr)→(∀ j,o + i≤j→j < o + i + vs.length→(decide (fr.1≤j) && decide (j < fr.2))=false) →
  o + i + vs.length≤cur.size→(∀ v ∈ vs,v.oneCell' = true) →
  (storeCells ⟨g,o,none⟩ vs i).run P w = .ok () (w.setRow g (cur.toList.take (o + i)++vs++cur.toList.drop (o + i + vs.length)).toArray)
 | [],i,cur,w,hg,_,_,_ => by
  simp only [storeCells,zDO,zC8,zDZ,zDB,Array.toArray_toList]
  rw [setRow_self w g cur t fr hg]
  rfl
 | v::rest,i,cur,w,hg,hfz,hl,h1 => by
  have hi:o + i < cur.size:=by grind
  have hcell:w.cell? ⟨g,o + i,none⟩=some cur[o + i]:=by grind [World.cell?]
  have hfro:w.frozen? ⟨g,o + i,none⟩=false:=by
   simp_all [zDe,World.frozen?]
  have hst:(store ((⟨g,o,none⟩:Addr).add i) v).run P w = .ok () (w.setRow g (cur.setIfInBounds (o + i) v)):=by
   grind [zaO,run_store,setCell_eq_setRow]
  have ih:=za6 P g o t fr rest (i + 1) (cur.setIfInBounds (o + i) v) (w.setRow g (cur.setIfInBounds (o + i) v)) (setRow_heap w g cur _ t _ hg)
   (fun j h1 h2 => hfz j kQ (by grind)) (by grind) (fun x hx => h1 x (by grind))
  simp only [storeCells,Sem.run_bind,hst,Result.andThen_ok,ih,setRow_setRow]
  congr 3
  have e:=list_seg_step cur.toList (o + i) v rest kQ
  simp_all [zFR,zD3]
theorem Sep.setRow (S:Sep w0 base w H) {fr:Nat×Nat}(hi:H[i]? = some s) (hj:s[j]? = some (b,.cells cs e fr)) (cs' : Array Value) :
  Sep w0 base (w.setRow b cs') (H.set i (s.set j (b,.cells cs' e fr))) :=
 S.write hi hj _ rfl rfl rfl (by simp_all) (setRow_heap w b cs cs' e fr (S.at_ hi hj).1) (fun k hk => setRow_other w b k cs' hk)
def zbH (cs:Array Value) (o:Nat) (vs:List Value):Array Value:=(cs.toList.take o++vs++cs.toList.drop (o + vs.length)).toArray
def noFr (fr:Nat×Nat) (o n:Nat):Bool:=Nat.ble fr.2 fr.1 || Nat.ble fr.2 o || Nat.ble (o + n) fr.1
theorem zlb {fr:Nat×Nat}{o:Nat}(h:noFr fr o n=true) (j:Nat) (h1:o≤j) (h2:j < o + n):(decide (fr.1≤j) && decide (j < fr.2))=false:=by
 simp only [noFr,zDw] at h
 rw [zFa,zDY,zDY]
 rcases h with (h | h) | h <;> have:=zDT h <;> omega
theorem zaS {t:Nat}{o:Nat}{v:Value}{fr:Nat×Nat}(i j:Nat) (hsz:za5 X.P t n=true) (hx:ev E x=some (.pointer (some ⟨b,o,none⟩))) (hy:ev E y=some v)
  (hi:H[i]? = some s) (hj:s[j]? = some (b,.cells cs e fr)) (hn:v.cells.size=n) (h1:v.cells.toList.all (·.oneCell')=true) (ho:Nat.ble (o + n) cs.size=true) (hfr:noFr fr o n=true)
  (hH:H.set i (s.set j (b,.cells (zbH cs o v.cells.toList) e fr))=H'):Does X E H (.store t x y) (Is undef H') :=
 zcL Z (fun dst ty pos after g ρ w hρ S => by
  have hb:=(S.at_ hi hj).1
  have hl:v.cells.toList.length=n:=by omega
  have ho:=zDT ho
  have hst:=za6 X.P b o e fr v.cells.toList 0 cs w hb (fun j h1 h2 => zlb hfr j kQ kQ) kQ (fun u hu => zDa.1 h1 u hu)
  refine ⟨_,H',?_,hH ▸ S.setRow hi hj _,Z,Z⟩
  simp only [zDZ] at hst
  simp [execOp,hρ _ _ hx,hρ _ _ hy,Instr.storeAt,Instr.sureAddr,storeVar,zb4 hsz,hn]
  rw [hst]
  rfl)
theorem zjw {t:Nat}{o:Nat}{v:Value}{fr:Nat×Nat}(i j:Nat) (hsz:za5 X.P t n=true) (hg:Wd X ops E g) (hx:ev E x=some (.pointer (some ⟨b,o,none⟩))) (hy:ev E y=some v)
  (hi:H[i]? = some s) (hj:s[j]? = some (b,.cells cs e fr)) (hn:v.cells.size=n) (h1:v.cells.toList.all (·.oneCell')=true) (ho:Nat.ble (o + n) cs.size=true) (hfr:noFr fr o n=true)
  (hH:H.set i (s.set j (b,.cells (zbH cs o v.cells.toList) e fr))=H') (hk:AtL X ops os k E ds H'):AtL X ops (⟨none,.store t x y,ty,pos,after,g⟩::os) k E ds H :=
 AtL.of (zaS i j hsz hx hy hi hj hn h1 ho hfr hH) hg rfl fun _ _ ⟨_,hH⟩ => by subst hH; exact hk
theorem Does.new {fv:Nat→Value}(hnd:zbl op=false)
  (hr:∀ dst ty pos after g ρ w,(∀ x v,ev E x=some v→ρ x=v)→Sep X.w0 X.base w H→(execOp ρ ⟨dst,op,ty,pos,after,g⟩).run X.P w = .ok (.value (fv w.heap.size)) (w.alloc (.cells cs e))) :
  Does X E H op (fun v H' => ∃ b,v=fv b∧H' = [(b,.cells cs e (0,0))]::H) :=
 zaq hnd fun dst ty pos after g ρ w hρ S => ⟨_,_,_,hr dst ty pos after g ρ w hρ S,S.alloc _,_,rfl,rfl⟩
def zbr (P:Program) (t:TypeId):Option Value:=match P.info? t with
 | some i => i.zero
 | none => none
theorem zfj {z:Value}(h:zbr P t=some z) (w:World):(zeroValue t).run P w = .ok z w:=by
 unfold zbr at h
 cases hi:P.info? t with
 | none => grind
 | some i =>
  simp_all [zeroValue,typeInfo]
theorem Do.alloc {z:Value}(hz:zbr X.P e=some z) (hcs:z.cells=cs):Does X E H (.alloc e) (fun v H' => ∃ b,v = .pointer (some ⟨b,0,none⟩)∧H' = [(b,.cells cs e (0,0))]::H) :=
 Does.new (fv:=fun b => .pointer (some ⟨b,0,none⟩)) rfl (fun dst ty pos after g ρ w hρ S => by
  simp_all [execOp,Instr.alloc,zfj,newVar,newRow])
theorem AtL.alloc {z:Value}(hz:zbr X.P e=some z) (hcs:z.cells=cs) (hg:Wd X ops E g) (hd:Nat.blt d X.n=true) (hk:∀ b,AtL X ops os k ((d,.pointer (some ⟨b,0,none⟩))::E) ds ([(b,.cells cs e (0,0))]::H)) :
  AtL X ops (⟨some d,.alloc e,ty,pos,after,g⟩::os) k E ds H:=AtL.of (Do.alloc hz hcs) hg hd fun _ _ ⟨b,hv,hH⟩ => by subst hv; subst hH; exact hk b
theorem zpW {v:Value}(hcs:v.cells=cs) (hx:ev E x=some v):Does X E H (.box e x) (fun v H' => ∃ b,v = .pointer (some ⟨b,0,none⟩)∧H' = [(b,.cells cs e (0,0))]::H) :=
 Does.new (fv:=fun b => .pointer (some ⟨b,0,none⟩)) rfl (fun dst ty pos after g ρ w hρ S => by
  simp_all [execOp,Instr.box,newVar,newRow])
theorem zaU {v:Value}(hcs:v.cells=cs) (hg:Wd X ops E g) (hd:Nat.blt d X.n=true) (hx:ev E x=some v) (hk:∀ b,AtL X ops os k ((d,.pointer (some ⟨b,0,none⟩))::E) ds ([(b,.cells cs e (0,0))]::H)) :
  AtL X ops (⟨some d,.box e x,ty,pos,after,g⟩::os) k E ds H:=AtL.of (zpW hcs hx) hg hd fun _ _ ⟨b,hv,hH⟩ => by subst hv; subst hH; exact hk b
def zjf (place:Nat→Option (Nat×Nat)):List Value→List (Nat×Value)→Option (List Value)
 | cells,[] => some cells
 | cells,(i,v)::rest => match place i with
  | none => none
  | some (off,size) => match Nat.beq v.cells.toList.length size && Nat.ble (off + size) cells.length with
   | true => zjf place (cells.take off++(v.cells.toList++cells.drop (off + size))) rest
   | false => none
theorem zwz (vs:List Value):∀ (cs:Array Value) (off i:Nat),off + i + vs.length≤cs.size→(vs.zipIdx i).foldl (fun (cs:Array Value) (p:Value×Nat) => cs.setIfInBounds (off + p.2) p.1) cs=(cs.toList.take (off + i)++(vs++cs.toList.drop (off + i + vs.length))).toArray:=by
 induction vs with
 | nil => simp_all
 | cons v vs ih =>
  intro cs off i h
  rw [List.zipIdx_cons,List.foldl_cons,ih _ off (i + 1) (by grind)]
  apply zD5
  have hlt:off + i < cs.toList.length:=by grind
  simp only [zFR,zDr,zC7]
  rw [zFy,zDi hlt]
  have hl:(cs.toList.take (off + i)).length=off + i:=by grind
  rw [show off + (i + 1)=(cs.toList.take (off + i)++[v]).length from by grind]
  rw [show cs.toList.take (off + i)++v::cs.toList.drop (off + i + 1)=(cs.toList.take (off + i)++[v])++cs.toList.drop (off + i + 1) from by simp]
  rw [zEA,zFg]
  simp only [zC6,hl,zC7,zC8,zEi,zDg,zEB]
  congr 3
  rw [zDn (by grind),zDG,zEj]
  grind
theorem zlu {place:Nat→Option (Nat×Nat)}{cells:List Value}{ps:List (Nat×Value)}{cs:List Value}(h:zjf place cells ps=some cs):Instr.fill place cells.toArray ps=some cs.toArray:=by
 induction ps generalizing cells with
 | nil => simp only [zjf,zEH] at h; subst h; rfl
 | cons p ps ih =>
  obtain ⟨i,v⟩:=p
  unfold zjf at h
  unfold Instr.fill
  cases hp:place i with
  | none => grind
  | some os =>
   obtain ⟨off,size⟩:=os
   rw [hp] at h
   simp only at h ⊢
   cases hc:(Nat.beq v.cells.toList.length size && Nat.ble (off + size) cells.length) with
   | false => grind
   | true =>
    rw [hc] at h
    simp only at h
    rw [zC9] at hc
    have h1:v.cells.size=size:=by simp_all
    have h2:=zDT hc.2
    rw [zDb (by grind)]
    rw [← ih h]
    congr 1
    have:=zwz v.cells.toList cells.toArray off 0 (by grind)
    simp only [zDZ,zEu,h1] at this
    grind [Array.toList_zipIdx]
def zfi (P:Program) (t:TypeId):Option (List (Nat×Nat)×List Value):=match P.underlying t with
 | some (.struct fs) => match fs.toList.mapM (fun f => (P.info? f.type).map fun i => (f.offset,i.size)),zbr P t with
  | some pl,some z => some (pl,z.cells.toList)
  | _,_ => none
 | _ => none
theorem zqp {fs:List Field}(h:fs.mapM (fun f => (P.info? f.type).map fun i => (f.offset,i.size))=some pl) :
  (fs.mapM (m:=Sem) fun f => do pure (f.offset,← sizeOf f.type)).run P w = .ok pl w:=by
 induction fs generalizing pl with
 | nil => simp_all
 | cons f fs ih =>
  rw [zEW] at h ⊢
  cases hi:P.info? f.type with
  | none => grind
  | some i =>
   rw [hi] at h
   cases hr:fs.mapM (fun f => (P.info? f.type).map fun i => (f.offset,i.size)) with
   | none => grind
   | some q =>
    simp_all [bind_pure_comp,sizeOf,typeInfo]
def evsP (E:Env):List (Nat×Operand)→Option (List (Nat×Value))
 | [] => some []
 | (i,x)::xs => match ev E x with
  | some v => (evsP E xs).map ((i,v)::·)
  | none => none
theorem ziu {xs:List (Nat×Operand)}{vs:List (Nat×Value)}(hρ:∀ x v,ev E x=some v→ρ x=v) (h:evsP E xs=some vs):xs.map (fun p => (p.1,ρ p.2))=vs:=by
 induction xs generalizing vs with
 | nil => grind [evsP]
 | cons p xs ih =>
  obtain ⟨i,x⟩:=p
  simp only [evsP] at h
  cases hx:ev E x with
  | none => grind
  | some v =>
   rw [hx] at h
   cases hr:evsP E xs with
   | none => grind
   | some us =>
    grind
theorem zuf {z cs:List Value}{ps:List (Nat×Value)}(hl:zfi P t=some (pl,z)) (hf:zjf (fun i => pl[i]?) z ps=some cs) (w:World):(Instr.build t ps.toArray).run P w = .ok (.agg cs.toArray) w:=by
 unfold zfi at hl
 cases hu:P.underlying t with
 | none => grind
 | some dd =>
  rw [hu] at hl
  cases dd with
  | struct fs =>
   simp only at hl
   cases hp:fs.toList.mapM (fun f => (P.info? f.type).map fun i => (f.offset,i.size)) with
   | none => grind
   | some q =>
    cases hz:zbr P t with
    | none => grind
    | some z' =>
     rw [hp,hz] at hl
     simp at hl
     obtain ⟨rfl,rfl⟩:=hl
     have:=zqp (w:=w) hp
     have hm:(fs.mapM (m:=Sem) fun f => do pure (f.offset,← sizeOf f.type)).run P w = .ok q.toArray w:=by
      rw [zES]
      simp_all
     unfold Instr.build
     simp only [Sem.run_bind,zfj hz,run_underlying hu,Result.andThen_ok] at hm ⊢
     rw [hm]
     have hf2:=zlu hf
     simp_all
  | _ => grind
theorem zcc {vs:List (Nat×Value)}{z cs:List Value}(hl:zfi X.P t=some (pl,z)) (hx:evsP E ps.toList=some vs) (hf:zjf (fun i => pl[i]?) z vs=some cs):Does X E H (.build t ps) (Is (.agg cs.toArray) H) :=
 zan rfl (fun dst ty pos after g ρ w hρ => by
  have e:(ps.map fun p => (p.1,ρ p.2))=vs.toArray:=by
   apply zD5
   rw [zEY]
   exact ziu hρ hx
  grind [zuf,execOp,Sem.run_bind,Result.andThen_ok,Sem.run_pure])
theorem zak {vs:List (Nat×Value)}{z cs:List Value}(hl:zfi X.P t=some (pl,z)) (hg:Wd X ops E g) (hd:Nat.blt d X.n=true) (hx:evsP E ps.toList=some vs) (hf:zjf (fun i => pl[i]?) z vs=some cs)
  (hk:AtL X ops os k ((d,.agg cs.toArray)::E) ds H) :
  AtL X ops (⟨some d,.build t ps,ty,pos,after,g⟩::os) k E ds H :=
 zai (zcc hl hx hf) hg hd hk
theorem zy0 {l:List Value}(hi:i < n * l.length):((List.replicate n l).flatten)[i]? = l[i % l.length]?:=by
 induction n generalizing i with
 | zero => omega
 | succ n ih =>
  rw [zFF,zEb]
  have hl:0 < l.length:=by
   grind
  rcases zEw i l.length with h | h
  ·rw [zEa h,Nat.mod_eq_of_lt h]
  grind [List.getElem?_append_right,Nat.add_mul,Nat.mod_eq_sub_mod]
theorem zgL (z:Array Value) (n:Nat):(Array.range (n * z.size)).map (fun i => z[i % z.size]!)=((List.replicate n z.toList).flatten).toArray:=by
 apply zD5
 apply zDV
 intro i
 rw [zEY,Array.toList_range,zEc]
 rcases zEw i (n * z.size) with h | h
 ·grind [List.getElem?_range,List.replicate,zy0,Nat.eq_zero_or_pos,Nat.mod_lt,getElem!_def]
 simp_all
theorem za2 {t e:Nat}{vs:List (Nat×Value)}{z:Value}{cs:List Value}(hu:X.P.underlying t=some (.slice e)) (hz:zbr X.P e=some z) (hs:za5 X.P e sz=true) (hzs:Nat.beq z.cells.toList.length sz=true) (hn:Nat.ble (n * sz) 16777216=true)
  (hx:evsP E ps.toList=some vs) (hf:zjf (fun i => some (i * sz,sz)) ((List.replicate n z.cells.toList).flatten) vs=some cs):Does X E H (.buildSlice t n ps) (fun v H' => ∃ b,v = .slice (some ⟨b,0,none⟩) n n∧H' = [(b,.cells cs.toArray e (0,0))]::H) :=
 Does.new (fv:=fun b => .slice (some ⟨b,0,none⟩) n n) rfl (fun dst ty pos after g ρ w hρ S => by
  have ep:(ps.map fun p => (p.1,ρ p.2))=vs.toArray:=by
   apply zD5
   rw [zEY]
   exact ziu hρ hx
  have hn:=zDT hn
  have hzz:z.cells.size=sz:=by simp_all
  have hff:=zlu hf
  have hb:(Instr.buildSlice t n vs.toArray).run X.P w = .ok (.slice (some ⟨w.heap.size,0,none⟩) n n) (w.alloc (.cells cs.toArray e)):=by
   unfold Instr.buildSlice
   simp only [Sem.run_bind,run_underlying hu,Result.andThen_ok,zb4 hs]
   rw [zDb kQ]
   by_cases h0:n * sz=0
   ·rw [zDi h0]
    have he:(List.replicate n z.cells.toList).flatten=[]:=by
     apply zDk
     simp_all
    rw [he] at hff
    have e0:∀ f:Nat→Value,(Array.range 0).map f = #[]:=fun f => by
     grind
    simp only [Sem.run_bind,Result.andThen_ok,Sem.run_pure,h0,e0,hff,newRow,run_newObj]
    rfl
   ·rw [zDb h0]
    have hr:=zgL z.cells n
    simp_all [Sem.run_bind,Result.andThen_ok,Sem.run_pure,zfj,newRow,run_newObj]
  grind [execOp,Sem.run_bind,Result.andThen_ok,Sem.run_pure])
theorem zae {t e:Nat}{vs:List (Nat×Value)}{z:Value}{cs:List Value}(hu:X.P.underlying t=some (.slice e)) (hz:zbr X.P e=some z) (hs:za5 X.P e sz=true) (hzs:Nat.beq z.cells.toList.length sz=true) (hn:Nat.ble (n * sz) 16777216=true) (hg:Wd X ops E g) (hd:Nat.blt d X.n=true)
  (hx:evsP E ps.toList=some vs) (hf:zjf (fun i => some (i * sz,sz)) ((List.replicate n z.cells.toList).flatten) vs=some cs)
  (hk:∀ b,AtL X ops os k ((d,.slice (some ⟨b,0,none⟩) n n)::E) ds ([(b,.cells cs.toArray e (0,0))]::H)):AtL X ops (⟨some d,.buildSlice t n ps,ty,pos,after,g⟩::os) k E ds H :=
 AtL.of (za2 hu hz hs hzs hn hx hf) hg hd fun _ _ ⟨b,hv,hH⟩ => by subst hv; subst hH; exact hk b
def zcb (P:Program) (s f:Nat):Option Nat:=match P.underlying s with
 | some (.struct fs) => match fs[f]? with
  | some fd => match P.info? fd.type with
   | some i => if Nat.beq i.size 0 then none else some fd.offset
   | none => none
  | none => none
 | _ => none
theorem zmI {s f o:Nat}(h:zcb P s f=some o) (p:Addr) (w:World):(Instr.fieldAt s (.pointer (some p)) f).run P w = .ok (.pointer (some (p.add o))) w:=by
 unfold zcb at h
 cases hu:P.underlying s with
 | none => grind
 | some dd =>
  rw [hu] at h
  cases dd with
  | struct fs =>
   simp only at h
   cases hf:fs[f]? with
   | none => grind
   | some fd =>
    rw [hf] at h
    simp only at h
    cases hi:P.info? fd.type with
    | none => grind
    | some i =>
     rw [hi] at h
     simp only at h
     split at h
     ·cases h
     ·rename_i hne
      cases h
      have:¬ i.size=0:=by simp_all
      simp_all [Instr.fieldAt,run_underlying,Instr.sureAddr,fieldPlace,sizeOf,typeInfo]
  | _ => grind
theorem zhX {s f o:Nat}(ho:zcb X.P s f=some o) (hx:ev E x=some (.pointer (some p))):Does X E H (.fieldAddr s x f) (Is (.pointer (some (p.add o))) H) :=
 zan rfl (fun dst ty pos after g ρ w hρ => by simp_all [execOp,zmI])
theorem zdy {s f o:Nat}(ho:zcb X.P s f=some o) (hg:Wd X ops E g) (hd:Nat.blt d X.n=true) (hx:ev E x=some (.pointer (some p))) (hk:AtL X ops os k ((d,.pointer (some (p.add o)))::E) ds H) :
  AtL X ops (⟨some d,.fieldAddr s x f,ty,pos,after,g⟩::os) k E ds H :=
 zai (zhX ho hx) hg hd hk
theorem ze9 {s f o q:Nat}(ho:zcb X.P s f=some o) (hx:ev E x=some (.pointer (some ⟨b,q,none⟩))) (hr:q + o=r):Does X E H (.fieldAddr s x f) (Is (.pointer (some ⟨b,r,none⟩)) H):=by
 have:=zhX (X:=X) (E:=E) (H:=H) ho hx
 grind [zaO]
theorem zbL {s f o q:Nat}(ho:zcb X.P s f=some o) (hg:Wd X ops E g) (hd:Nat.blt d X.n=true) (hx:ev E x=some (.pointer (some ⟨b,q,none⟩))) (hr:q + o=r) (hk:AtL X ops os k ((d,.pointer (some ⟨b,r,none⟩))::E) ds H) :
  AtL X ops (⟨some d,.fieldAddr s x f,ty,pos,after,g⟩::os) k E ds H:=zai (ze9 ho hx hr) hg hd hk
def zit (P:Program) (s f:Nat) (cs:Array Value):Option Value:=match P.underlying s with
 | some (.struct fs) => match fs[f]? with
  | some fd => if zgq P fd.type then cs[fd.offset]? else match aggN P fd.type with
   | some n => some (.agg (cs.extract fd.offset (fd.offset + n)))
   | none => none
  | none => none
 | _ => none
theorem zmJ {s f:Nat}{v:Value}(h:zit P s f cs=some v) (w:World):(Instr.field s (.agg cs) f).run P w = .ok v w:=by
 unfold zit at h
 cases hu:P.underlying s with
 | none => grind
 | some dd =>
  rw [hu] at h
  cases dd with
  | struct fs =>
   simp only at h
   cases hf:fs[f]? with
   | none => grind
   | some fd =>
    rw [hf] at h
    simp only at h
    split at h
    ·simp_all [Instr.field,run_underlying,asAgg,part,zhr]
    ·split at h
     ·simp_all [Instr.field,run_underlying,asAgg,part,zfz]
     grind
  | _ => grind
theorem zxE {s f:Nat}{v:Value}(hx:ev E x=some (.agg cs)) (hf:zit X.P s f cs=some v):Does X E H (.field s x f) (Is (v) H) :=
 zan rfl (fun dst ty pos after g ρ w hρ => by simp_all [execOp,zmJ])
theorem zuX {s f:Nat}{v:Value}(hg:Wd X ops E g) (hd:Nat.blt d X.n=true) (hx:ev E x=some (.agg cs)) (hf:zit X.P s f cs=some v) (hk:AtL X ops os k ((d,v)::E) ds H) :
  AtL X ops (⟨some d,.field s x f,ty,pos,after,g⟩::os) k E ds H :=
 zai (zxE hx hf) hg hd hk
theorem zfQ {t e:Nat}{i:Int}(j:Nat) (hu:X.P.underlying t=some (.slice e)) (hs:za5 X.P e sz=true) (hx:ev E x=some (.slice A n C)) (hi:ev E ix=some (.int kk i)) (hij:i=(j:Int)) (hj:j < n) (hA:A≠none):Does X E H (.indexAddr t x ix) (Is (.pointer (some (zdt A (j * sz)))) H) :=
 zan rfl (fun dst ty pos after g ρ w hρ => by
  subst hij
  cases A with
  | none => grind
  | some a => simp [execOp,hρ _ _ hx,hρ _ _ hi,Instr.indexAt,asIntOf,run_underlying hu,hj,zb4 hs,zdt])
theorem AtL.indexAddr {t e:Nat}{i:Int}(j:Nat) (hu:X.P.underlying t=some (.slice e)) (hs:za5 X.P e sz=true) (hg:Wd X ops E g) (hd:Nat.blt d X.n=true) (hx:ev E x=some (.slice A n C)) (hi:ev E ix=some (.int kk i))
  (hij:i=(j:Int)) (hj:j < n) (hA:A≠none) (hk:AtL X ops os k ((d,.pointer (some (zdt A (j * sz))))::E) ds H) :
  AtL X ops (⟨some d,.indexAddr t x ix,ty,pos,after,g⟩::os) k E ds H :=
 zai (zfQ j hu hs hx hi hij hj hA) hg hd hk
theorem Rd.ne_none {T:Ty α}{l:List α}(h:Rd T w0 base H A C l) (hj:j < l.length):A≠none:=by
 intro e
 have h1:=h.nil e
 have h2:=h.le
 omega
theorem zju {T:Ty α}{t e:Nat}{l:List α}{i:Int}(j:Nat) (hr:Rd T X.w0 X.base H A C l) (hu:X.P.underlying t=some (.slice e)) (hs:za5 X.P e T.sz=true)
  (hx:ev E x=some (.slice A l.length C)) (hi:ev E ix=some (.int kk i)) (hij:i=(j:Int)) (hj:j < l.length):Does X E H (.indexAddr t x ix) (Is (.pointer (some (zdt A (j * T.sz)))) H) :=
 zfQ j hu hs hx hi hij hj (hr.ne_none hj)
theorem zah {T:Ty α}{t e:Nat}{l:List α}{i:Int}(j:Nat) (hr:Rd T X.w0 X.base H A C l) (hu:X.P.underlying t=some (.slice e)) (hs:za5 X.P e T.sz=true) (hg:Wd X ops E g) (hd:Nat.blt d X.n=true)
  (hx:ev E x=some (.slice A l.length C)) (hi:ev E ix=some (.int kk i)) (hij:i=(j:Int)) (hj:j < l.length) (hk:AtL X ops os k ((d,.pointer (some (zdt A (j * T.sz))))::E) ds H) :
  AtL X ops (⟨some d,.indexAddr t x ix,ty,pos,after,g⟩::os) k E ds H:=zai (zju j hr hu hs hx hi hij hj) hg hd hk
end
section ty
variable {α:Type}{T:Ty α}
theorem zdw (l:List α) (i:Nat) (hi:i≤l.length):T.cells (l.drop i)=(T.cells l).drop (i * T.sz):=by
 have h:T.cells l=T.cells (l.take i)++T.cells (l.drop i):=by rw [← zaX,zDB]
 grind [zaC,List.length_take,Nat.min_eq_left,List.drop_left]
theorem zcY (l:List α) (i:Nat) (hi:i≤l.length):T.cells (l.take i)=(T.cells l).take (i * T.sz):=by
 grind [zaX,List.take_append_drop,zaC,List.length_take,Nat.min_eq_left,List.take_left]
theorem zlC (l:List α) (i j:Nat) (hij:i≤j) (hj:j≤l.length):T.cells (subl l i j)=((T.cells l).drop (i * T.sz)).take ((j - i) * T.sz):=by
 grind [subl,zcY,List.length_drop,zdw]
theorem zee (n:Nat) (z:α):T.cells (List.replicate n z)=(List.replicate n (T.val z).cells.toList).flatten:=by
 simp [Ty.cells,List.flatMap_replicate]
end ty
theorem zvs (l:List α) (i:Nat):subl l i i=[]:=by simp [subl]
theorem zbK (l:List α) (j:Nat):subl l 0 j=l.take j:=by simp [subl]
theorem zbx (l:List α) (i:Nat):subl l i l.length=l.drop i:=by
 simp_all [subl,zDc,zDK,zDe]
section bounds
variable {P:Program}{E:Env}{ρ:Operand→Value}
theorem zkC (hρ:∀ x v,ev E x=some v→ρ x=v) {mx:Option Operand}(isS:Bool) (h1:za8 E lo 0 i) (h2:za8 E hi n j) (h3:za8 E mx c m) (hmx:mx.isSome=true→hi.isSome=true) (hij:i≤j) (hjm:j≤m) (hmc:m≤c) (w:World) :
  (Instr.sliceBounds isS n c (lo.map ρ) (hi.map ρ) (mx.map ρ)).run P w = .ok (i,j,m) w:=by
 unfold Instr.sliceBounds
 cases mx with
 | none =>
  cases h3
  cases lo with
  | none =>
   cases h1
   cases hi with
   | none => cases h2; simp
   | some y =>
    obtain ⟨k2,z2,e2,rfl⟩:=h2
    simp_all [Instr.sliceBound,asIntOf]
  | some x1 =>
   obtain ⟨k1,z1,e1,rfl⟩:=h1
   cases hi with
   | none => cases h2; simp_all [Instr.sliceBound,asIntOf]
   | some y =>
    obtain ⟨k2,z2,e2,rfl⟩:=h2
    simp_all [Instr.sliceBound,asIntOf]
 | some q =>
  obtain ⟨k3,z3,e3,rfl⟩:=h3
  cases hi with
  | none => grind
  | some y =>
   obtain ⟨k2,z2,e2,rfl⟩:=h2
   cases lo with
   | none =>
    cases h1
    simp_all [Instr.sliceBound,asIntOf]
   | some x1 =>
    obtain ⟨k1,z1,e1,rfl⟩:=h1
    simp_all [Instr.sliceBound,asIntOf]
end bounds
theorem Rd.cut {T:Ty α}{l:List α}(h:Rd T w0 base H A C l) (hij:i≤j) (hj:j≤l.length) (hjm:j≤m) (hm:m≤C) :
  Rd T w0 base H (if m=i then A else A.map (·.add (i * T.sz))) (m - i) (subl l i j):=by
 refine ⟨by grind [zal],by have:=h.cap; omega,?_,?_⟩
 ·intro e
  split at e
  ·omega
  ·have:A=none:=by cases A <;> simp_all
   have:=h.nil this
   omega
 ·intro hne
  have hlt:i < j:=by
   grind [Nat.lt_or_ge,absurd,zvs]
  obtain ⟨b,off,rfl,hc⟩:=h.cells (by grind)
  rw [zDb kQ]
  grind [zaO,zlC,Nat.add_assoc]
theorem OwnR.cut {T:Ty α}{l r:List α}(h:OwnR T e A l r s) (hij:i≤j) (hjm:j≤m) (hm:m≤l.length + r.length) :
  OwnR T e (if m=i then A else A.map (·.add (i * T.sz))) (subl (l++r) i j) (subl (l++r) j m) s:=by
 rcases h with ⟨rfl,rfl,rfl,rfl⟩ | ⟨g,pre,post,fr,rfl,rfl,hf,hc⟩
 ·left
  simp [subl]
 ·right
  split
  ·rename_i hmi
   have:j=i:=by omega
   subst this; subst hmi
   refine ⟨g,pre,l++r++post,fr,Z,?_,?_,by simp [subl]⟩
   ·simp [subl]
   grind [subl]
  ·have e1:l++r=(l++r).take i++subl (l++r) i j++subl (l++r) j m++(l++r).drop m:=by
    unfold subl
    conv => lhs; rw [← zDB i (l++r),← zDB (j - i) ((l++r).drop i),zEj,show i + (j - i)=j from by omega]
    conv => lhs; rw [← zDB (m - j) ((l++r).drop j),zEj,show j + (m - j)=m from by omega]
    grind
   have e2:pre++l++r++post=(pre++(l++r).take i)++subl (l++r) i j++subl (l++r) j m++((l++r).drop m++post):=by
    grind
   refine ⟨g,pre++(l++r).take i,(l++r).drop m++post,fr,?_,?_,?_,?_⟩
   ·simp only [zDN,zaO]
    rw [zC6,zDs,zEl (by grind),zEk]
   ·rw [e2]
   ·grind
   grind
theorem Own.cut {T:Ty α}{l:List α}(h:Own T e A C l s) (hij:i≤j) (hj:j≤l.length) (hjm:j≤m) (hm:m≤C) :
  Own T e (if m=i then A else A.map (·.add (i * T.sz))) (m - i) (subl l i j) s:=by
 obtain ⟨r,rfl,h⟩:=h
 have:=h.cut hij hjm hm
 have e1:subl (l++r) i j=subl l i j:=by
  unfold subl
  grind
 rw [e1] at this
 refine ⟨_,?_,this⟩
 grind [zal,List.length_append]
section
variable {X:Pt}{k:List Item}{E:Env}{ds:List Deferred}{H:List Seg}{ops:Array Oper}{os:List Oper}
  {d:Nat}{ty:TypeId}{pos:String}{after:Array Edge}{g:Option (Nat×Bool)}
section cuts
variable {α:Type}{T:Ty α}{xt e:TypeId}{x:Operand}{lo hi mx:Option Operand}{A:Option Addr}{C:Nat}{l:List α}
theorem zdL {d:Option Tmp}(h1:za8 E lo 0 i) (h2:za8 E hi n j) (h3:za8 E mx C m) (hmx:mx.isSome=true→hi.isSome=true) (hij:i≤j) (hjm:j≤m) (hm:m≤C)
  (hu:X.P.underlying xt=some (.slice e)) (hs:za5 X.P e sz=true) (hx:ev E x=some (.slice A n C)) (ρ:Operand→Value) (w:World) (hρ:∀ x v,ev E x=some v→ρ x=v) :
  (execOp ρ ⟨d,.slice xt x lo hi mx,ty,pos,after,g⟩).run X.P w = .ok (.value (.slice (if m=i then A else A.map (·.add (i * sz))) (j - i) (m - i))) w:=by
 have hb:=zkC (P:=X.P) hρ true h1 h2 h3 hmx hij hjm hm w
 simp [execOp,hρ _ _ hx,Instr.sliceAt,Instr.slice,run_underlying hu,hb,zb4 hs]
theorem zuG (q i j m:Nat) (hr:Rd T X.w0 X.base (H.drop q) A C l) (h1:za8 E lo 0 i) (h2:za8 E hi l.length j) (h3:za8 E mx C m) (hmx:mx.isSome=true→hi.isSome=true) (hij:i≤j) (hj:j≤l.length) (hjm:j≤m) (hm:m≤C) (hu:X.P.underlying xt=some (.slice e)) (hs:za5 X.P e T.sz=true) (hx:ev E x=some (.slice A l.length C)):Does X E H (.slice xt x lo hi mx) (fun v H' => ∃ A' C',Rd T X.w0 X.base (H.drop q) A' C' (subl l i j)∧v = .slice A' (subl l i j).length C'∧H' = H) :=
 zaq rfl (fun dst ty pos after g ρ w hρ S => ⟨_,w,H,zdL (d:=dst) h1 h2 h3 hmx hij hjm hm hu hs hx ρ w hρ,S,_,_,hr.cut hij hj hjm hm,by rw [zal hj],rfl⟩)
theorem zbC (q i j m:Nat) (hr:Rd T X.w0 X.base (H.drop q) A C l) (h1:za8 E lo 0 i) (h2:za8 E hi l.length j) (h3:za8 E mx C m) (hmx:mx.isSome=true→hi.isSome=true) (hij:i≤j) (hj:j≤l.length) (hjm:j≤m) (hm:m≤C)
  (hu:X.P.underlying xt=some (.slice e)) (hs:za5 X.P e T.sz=true) (hg:Wd X ops E g) (hd:Nat.blt d X.n=true) (hx:ev E x=some (.slice A l.length C))
  (hk:∀ A' C',Rd T X.w0 X.base (H.drop q) A' C' (subl l i j)→AtL X ops os k ((d,.slice A' (subl l i j).length C')::E) ds H) :
  AtL X ops (⟨some d,.slice xt x lo hi mx,ty,pos,after,g⟩::os) k E ds H :=
 AtL.of (zuG q i j m hr h1 h2 h3 hmx hij hj hjm hm hu hs hx) hg hd fun _ _ ⟨A',C',h',hv,hH⟩ => by subst hv; subst hH; exact hk A' C' h'
theorem zuH (i j m:Nat) (hr:Own T e A C l s) (h1:za8 E lo 0 i) (h2:za8 E hi l.length j) (h3:za8 E mx C m) (hmx:mx.isSome=true→hi.isSome=true) (hij:i≤j) (hj:j≤l.length) (hjm:j≤m) (hm:m≤C) (hu:X.P.underlying xt=some (.slice e)) (hs:za5 X.P e T.sz=true) (hx:ev E x=some (.slice A l.length C)):Does X E H (.slice xt x lo hi mx) (fun v H' => ∃ A' C',Own T e A' C' (subl l i j) s∧v = .slice A' (subl l i j).length C'∧H' = H) :=
 zaq rfl (fun dst ty pos after g ρ w hρ S => ⟨_,w,H,zdL (d:=dst) h1 h2 h3 hmx hij hjm hm hu hs hx ρ w hρ,S,_,_,hr.cut hij hj hjm hm,by rw [zal hj],rfl⟩)
theorem zgc (i j m:Nat) (hr:Own T e A C l s) (h1:za8 E lo 0 i) (h2:za8 E hi l.length j) (h3:za8 E mx C m) (hmx:mx.isSome=true→hi.isSome=true) (hij:i≤j) (hj:j≤l.length) (hjm:j≤m) (hm:m≤C)
  (hu:X.P.underlying xt=some (.slice e)) (hs:za5 X.P e T.sz=true) (hg:Wd X ops E g) (hd:Nat.blt d X.n=true) (hx:ev E x=some (.slice A l.length C))
  (hk:∀ A' C',Own T e A' C' (subl l i j) s→AtL X ops os k ((d,.slice A' (subl l i j).length C')::E) ds H) :
  AtL X ops (⟨some d,.slice xt x lo hi mx,ty,pos,after,g⟩::os) k E ds H :=
 AtL.of (zuH i j m hr h1 h2 h3 hmx hij hj hjm hm hu hs hx) hg hd fun _ _ ⟨A',C',h',hv,hH⟩ => by subst hv; subst hH; exact hk A' C' h'
end cuts
theorem Rd.first {T:Ty α}{l:List α}(h:Rd T w0 base H A C l) (S:Sep w0 base w H) (n:Nat) (hn:n≤l.length) :
  (Builtin.firstCells T.sz n (.slice A l.length C)).run P w = .ok (T.cells (l.take n)).toArray w:=by
 cases A with
 | none =>
  have hC:=h.nil rfl
  have hl:=h.le
  simp_all [zDk,Builtin.firstCells,Ty.cells]
 | some a =>
  by_cases h0:l=[]
  ·simp_all [Builtin.firstCells,Ty.cells,loadCells,loadCellsFrom]
  ·obtain ⟨b,off,ha,hc⟩:=h.cells h0
   grind [zaC,List.length_take,Nat.min_eq_left,run_loadCells_list,zaO,zcY,Builtin.firstCells]
structure ElemOk {α:Type}(P:Program) (t e:TypeId) (T:Ty α) (z:α) (by_:Nat):Prop where
  u:P.underlying t=some (.slice e)
  info:∃ i,P.info? e=some i∧i.size=T.sz∧i.bytes=by_∧i.zero=some (T.val z)
  pos:0 < by_
def zCk (P:Program) (e sz by_:Nat):Bool:=match P.info? e with
 | some i => Nat.beq i.size sz && Nat.beq i.bytes by_
 | none => false
theorem ElemOk.of {T:Ty α}{z:α}(hu:P.underlying t=some (.slice e)) (h:zCk P e T.sz by_=true) (hz:zbr P e=some (T.val z)) (hp:Nat.blt 0 by_=true):ElemOk P t e T z by_:=by
 refine ⟨hu,?_,zdr hp⟩
 unfold zCk at h
 unfold zbr at hz
 cases hi:P.info? e with
 | none => grind
 | some i =>
  simp_all
theorem zbW (z:Array Value) (n:Nat):Builtin.zeroCells z n=((List.replicate n z.toList).flatten).toArray:=by
 grind [Builtin.zeroCells,zgL]
theorem zpS (S:Sep w0 base w (s'::H)) (hi:H[i]? = some s):Sep w0 base w (H.set i s'):=by
 obtain ⟨h1,h2⟩:=zdd.1 S.nodup
 rw [List.pairwise_cons] at h2
 obtain ⟨h2,h3⟩:=h2
 refine ⟨S.below,S.le,fun p hp => S.mem p ?_,zdd.2 ⟨fun t ht => h1 t ?_,?_⟩⟩
 ·grind [zfC,List.flatten_cons,List.mem_flatten,List.mem_iff_getElem?]
 ·grind
 ·rw [zFo] at h3 ⊢
  intro a b ha hb hab x hx y hy
  simp only [zGg] at ha hb
  rw [zF4] at hx hy
  split at hx
  ·grind
  grind
theorem zfn (l:yB):tyB.cells l=l.map byt:=by
 induction l with
 | nil => rfl
 | cons a l ih =>
  have:tyB.cells (a::l)=byt a::tyB.cells l:=rfl
  grind
theorem zkD {T:Ty α}(S:Sep w0 base w H) {z:α}(hT:ElemOk P t e T z by_) (h2:P.underlying t2=some .string∨∃ e2,P.underlying t2=some (.slice e2))
  {l news:List α}(hi:H[i]? = some s) (ho:Own T e A C l s) {x:Value}(hl:∀ w,(Builtin.lenOf x).run P w = .ok news.length w) (hf:∀ w,Sep w0 base w H→(Builtin.firstCells T.sz news.length x).run P w = .ok (T.cells news).toArray w)
  (hb:(l.length + news.length) * by_≤140737488355328) :
  ∃ A' C' s' w',(Builtin.append_ #[t,t2] ty #[.slice A l.length C,x]).run P w = .ok (.slice A' (l++news).length C') w'∧Own T e A' C' (l++news) s'∧Sep w0 base w' (H.set i s'):=by
 obtain ⟨io,hio,hsz,hby,hz⟩:=hT.info
 have hpos:=hT.pos
 have hlen:l.length + news.length≤140737488355328:=zEv (zFt _ hpos) hb
 have hrd:Rd T w0 base H A C l:=ho.rd hi
 by_cases hroom:l.length + news.length≤C
 ·obtain ⟨r,rfl,h⟩:=ho
  rcases h with ⟨rfl,rfl,rfl,rfl⟩ | ⟨gb,pre,post,fr,rfl,rfl,hfo,hc⟩
  ·have hn:news=[]:=zDk (by grind)
   subst hn
   refine ⟨none,0,[],w,?_,Own.nil T e,?_⟩
   ·have h0:=hl w
    have h1:=hf w S
    simp at h0 h1
    rcases h2 with h2 | ⟨e2,h2⟩ <;> simp [Builtin.append_,run_underlying hT.u,run_underlying h2,sizeOf,typeInfo,hio,hsz,h0,h1]
   ·have:H.set i []=H:=by
     apply zDV
     grind
    grind
  ·have hrn:news.length≤r.length:=by omega
   have hblk:=(S.at_ hi (j:=0) rfl).1
   have hst:=za6 P gb (pre.length * T.sz + l.length * T.sz) e fr (T.cells news) 0 _ w hblk (fun j h1 h2 => hfo j (by
     rw [zaC] at h2
     simp only [zC6]
     have:(pre.length + l.length + r.length + post.length) * T.sz=pre.length * T.sz + l.length * T.sz + r.length * T.sz + post.length * T.sz:=by grind
     rw [this]
     have:=zDD T.sz hrn
     omega)) (by
     simp only [zEI,zaC,zC6,zEk]
     have:=zDD T.sz hrn
     omega) zep
   have ecut:((T.cells (pre++l++r++post)).take (pre.length * T.sz + l.length * T.sz)++T.cells news++(T.cells (pre++l++r++post)).drop (pre.length * T.sz + l.length * T.sz + (T.cells news).length))=T.cells (pre++(l++news)++r.drop news.length++post):=by
    have h1:pre.length * T.sz + l.length * T.sz=(pre++l).length * T.sz:=by grind
    have h2:(pre++l).length * T.sz + (T.cells news).length=((pre++l).length + news.length) * T.sz:=by rw [zaC,zEk]
    rw [h1,h2,← zcY _ _ (by grind),← zdw _ _ (by grind),← zaX,← zaX]
    congr 1
    rw [zDg (pre++l) r post,zEA,zFg,zDn kQ,zDG,zEK]
    grind
   refine ⟨some ⟨gb,pre.length * T.sz,none⟩,l.length + r.length,[(gb,.cells (T.cells (pre++(l++news)++r.drop news.length++post)).toArray e fr)],_,?_,⟨r.drop news.length,by grind,.inr ⟨gb,pre,post,fr,Z,Z,?_,by grind⟩⟩,S.setRow hi (j:=0) Z _⟩
   ·have h0:=hl w
    have h1:=hf w S
    simp only [zDZ] at hst
    rw [ecut] at hst
    have hst' : (storeCells ⟨gb,pre.length * T.sz + l.length * T.sz,none⟩ (T.cells news)).run P w=_:=hst
    rcases h2 with h2 | ⟨e2,h2⟩ <;> simp [Builtin.append_,run_underlying hT.u,run_underlying h2,sizeOf,typeInfo,hio,hsz,h0,h1,hrn,zaO,hst']
   grind
 ·have hneed:C < l.length + news.length:=by omega
  have hfits:=growslice_fits (bytes:=by_) hneed hb
  have hge:=grownCap_ge w (l.length + news.length) C e
  have hcm:grownCap w (l.length + news.length) C e≤maxLen:=grownCap_le_maxLen w (l.length + news.length) C e (by grind [maxLen])
  have Sd:Sep w0 base w.drew H:=S.drawn _
  have h0:=hl w
  have h1:=hf w.drew Sd
  have h3:=hrd.first (P:=P) Sd l.length (zDe _)
  rw [zF5] at h3
  refine ⟨some ⟨w.heap.size,0,none⟩,grownCap w (l.length + news.length) C e,[(w.heap.size,.cells (T.cells ([]++(l++news)++List.replicate (grownCap w (l.length + news.length) C e - (l.length + news.length)) z++[])).toArray e (0,0))],w.drew.alloc (.cells (T.cells ([]++(l++news)++List.replicate (grownCap w (l.length + news.length) C e - (l.length + news.length)) z++[])).toArray e),?_,
   ⟨List.replicate (grownCap w (l.length + news.length) C e - (l.length + news.length)) z,by grind,.inr ⟨w.heap.size,[],[],(0,0),by simp,Z,zaY _,by grind [List.length_append,List.length_replicate,maxLen]⟩⟩,?_⟩
  rotate_left
  ·exact zpS (Sd.alloc _) hi
  ·have hb48:¬ (281474976710656 < Builtin.nextslicecap (l.length + news.length) C * by_):=by omega
   have hb0:by_≠0:=by omega
   have hmax:¬ ((9223372036854775807:Int) < (((l.length + news.length:Nat)):Int)):=by omega
   have ez:Builtin.zeroCells (T.val z).cells (grownCap w (l.length + news.length) C e - (l.length + news.length))=(T.cells (List.replicate (grownCap w (l.length + news.length) C e - (l.length + news.length)) z)).toArray:=by
    rw [zbW,zee]
   have ecells:(T.cells l).toArray++(T.cells news).toArray++(T.cells (List.replicate (grownCap w (l.length + news.length) C e - (l.length + news.length)) z)).toArray=(T.cells ([]++(l++news)++List.replicate (grownCap w (l.length + news.length) C e - (l.length + news.length)) z++[])).toArray:=by
    simp [zaX]
   have hch:(choose (.appendCap (l.length + news.length) C e)).run P w = .ok (grownCap w (l.length + news.length) C e) w.drew:=by
    rfl
   rcases h2 with h2 | ⟨e2,h2⟩
   all_goals
    unfold Builtin.append_
    simp only [run_underlying hT.u,run_underlying h2,sizeOf,typeInfo,Sem.run_bind,Result.andThen_ok,Sem.run_pure,run_program,hio,hsz,h0,zEn,zDX,zDz,zDy,zDU,hroom,hby,hb48,false_or,hb0,and_false,hch,run_askRoom,h3,h1,newRow,run_newObj,zeroValue,hz,ez,ecells,Bool.not_false,zEm]
    simp only [ez,ecells,zC6]
    rfl
section app
variable {α:Type}{T:Ty α}{t e:TypeId}{z:α}{by_:Nat}{x y:Operand}{A A2:Option Addr}{C C2:Nat}{l news:List α}{s:Seg}
theorem zc1 (i:Nat) (hT:ElemOk X.P t e T z by_) (hi:H[i]? = some s) (ho:Own T e A C l s) (hr:Rd T X.w0 X.base H A2 C2 news) (hb:(l.length + news.length) * by_≤140737488355328) (hx:ev E x=some (.slice A l.length C)) (hy:ev E y=some (.slice A2 news.length C2)):Does X E H (.call ⟨.builtin .append,#[x,y],#[t,t]⟩) (fun v H' => ∃ A' C' s',Own T e A' C' (l++news) s'∧v = .slice A' (l++news).length C'∧H' = H.set i s') :=
 zaq Z (fun dst ty pos after g ρ w hρ S => by
  obtain ⟨A',C',s',w',hrun,ho',S'⟩:=zkD (P:=X.P) S (ty:=ty) hT (.inr ⟨_,hT.u⟩) hi ho (x:=.slice A2 news.length C2) (news:=news) (fun w => by simp [Builtin.lenOf]) (fun w S => by have:=hr.first (P:=X.P) S news.length (zDe _); grind) hb
  refine ⟨_,w',_,?_,S',A',C',s',ho',Z,Z⟩
  simp_all [execOp,resolve,invoke,builtin])
theorem zap (i:Nat) (hT:ElemOk X.P t e T z by_) (hi:H[i]? = some s) (ho:Own T e A C l s) (hr:Rd T X.w0 X.base H A2 C2 news) (hb:(l.length + news.length) * by_≤140737488355328) (hg:Wd X ops E g) (hd:Nat.blt d X.n=true)
  (hx:ev E x=some (.slice A l.length C)) (hy:ev E y=some (.slice A2 news.length C2))
  (hk:∀ A' C' s',Own T e A' C' (l++news) s'→AtL X ops os k ((d,.slice A' (l++news).length C')::E) ds (H.set i s')) :
  AtL X ops (⟨some d,.call ⟨.builtin .append,#[x,y],#[t,t]⟩,ty,pos,after,g⟩::os) k E ds H :=
 AtL.of (zc1 i hT hi ho hr hb hx hy) hg hd fun _ _ ⟨A',C',s',h',hv,hH⟩ => by subst hv; subst hH; exact hk A' C' s' h'
end app
theorem zeL {u:TypeId}{l:yB}(i:Nat) (hT:ElemOk X.P t e tyB 0 1) (hu:X.P.underlying u=some .string) (hi:H[i]? = some s) (ho:Own tyB e A C l s) (hb:l.length + news.length≤140737488355328) (hx:ev E x=some (.slice A l.length C)) (hy:ev E y=some (str news)):Does X E H (.call ⟨.builtin .append,#[x,y],#[t,u]⟩) (fun v H' => ∃ A' C' s',Own tyB e A' C' (l++news) s'∧v = .slice A' (l++news).length C'∧H' = H.set i s') :=
 zaq Z (fun dst ty pos after g ρ w hρ S => by
  obtain ⟨A',C',s',w',hrun,ho',S'⟩:=zkD (P:=X.P) S (ty:=ty) hT (.inl hu) hi ho (x:=str news) (news:=news) (fun w => by simp [Builtin.lenOf,str,zba]) (fun w S => by
   have e1:(ByteArray.mk ⟨news⟩).extract 0 news.length=ByteArray.mk ⟨news⟩:=by
    apply zFQ
    simp
   simp_all [zD5,zfn,byt,Builtin.firstCells,str]) kQ
  refine ⟨_,w',_,?_,S',A',C',s',ho',Z,Z⟩
  simp_all [execOp,resolve,invoke,builtin])
theorem zb2 {u:TypeId}{l:yB}(i:Nat) (hT:ElemOk X.P t e tyB 0 1) (hu:X.P.underlying u=some .string) (hi:H[i]? = some s) (ho:Own tyB e A C l s) (hb:l.length + news.length≤140737488355328) (hg:Wd X ops E g) (hd:Nat.blt d X.n=true)
  (hx:ev E x=some (.slice A l.length C)) (hy:ev E y=some (str news))
  (hk:∀ A' C' s',Own tyB e A' C' (l++news) s'→AtL X ops os k ((d,.slice A' (l++news).length C')::E) ds (H.set i s')) :
  AtL X ops (⟨some d,.call ⟨.builtin .append,#[x,y],#[t,u]⟩,ty,pos,after,g⟩::os) k E ds H :=
 AtL.of (zeL i hT hu hi ho hb hx hy) hg hd fun _ _ ⟨A',C',s',h',hv,hH⟩ => by subst hv; subst hH; exact hk A' C' s' h'
end
section
variable {X:Pt}{k:List Item}{E:Env}{ds:List Deferred}{H:List Seg}{ops:Array Oper}{os:List Oper}
  {d:Nat}{ty:TypeId}{pos:String}{after:Array Edge}{g:Option (Nat×Bool)}
theorem OwnR.over {T:Ty α}(S:Sep w0 base w H) {l r:List α}(hi:H[i]? = some s) (ho:OwnR T e A l r s) {a:Addr}(ha:A=some a) (j:Nat) (news:List α) (hj:j + news.length≤l.length) :
  ∃ s' w',(storeCells (a.add (j * T.sz)) (T.cells news)).run P w = .ok () w'∧OwnR T e A (l.take j++news++l.drop (j + news.length)) r s'∧Sep w0 base w' (H.set i s'):=by
 rcases ho with ⟨rfl,_⟩ | ⟨gb,pre,post,fr,rfl,rfl,hfo,hc⟩
 ·cases ha
 ·cases ha
  have hblk:=(S.at_ hi (j:=0) rfl).1
  have htot:(pre++l++r++post).length * T.sz=pre.length * T.sz + l.length * T.sz + r.length * T.sz + post.length * T.sz:=by grind
  have hjm:=zDD T.sz hj
  rw [zEk] at hjm
  have hst:=za6 P gb (pre.length * T.sz + j * T.sz) e fr (T.cells news) 0 _ w hblk (fun q h1 h2 => hfo q (by
    grind [zaC])) (by
    grind [List.size_toArray,zaC]) zep
  have ecut:((T.cells (pre++l++r++post)).take (pre.length * T.sz + j * T.sz)++T.cells news++(T.cells (pre++l++r++post)).drop (pre.length * T.sz + j * T.sz + (T.cells news).length))=T.cells (pre++(l.take j++news++l.drop (j + news.length))++r++post):=by
   have h1:pre.length * T.sz + j * T.sz=(pre.length + j) * T.sz:=by grind
   have h2:(pre.length + j) * T.sz + (T.cells news).length=(pre.length + (j + news.length)) * T.sz:=by rw [zaC]; grind
   rw [h1,h2,← zcY _ _ (by grind),← zdw _ _ (by grind),← zaX,← zaX]
   congr 1
   rw [show pre++l++r++post=pre++(l++(r++post)) from by grind]
   rw [zFA,zDc kQ,zEK,zD0 kQ]
   grind [List.drop_append,List.drop_eq_nil_of_le,Nat.add_sub_cancel_left,List.append_assoc]
  simp only [zDZ] at hst
  rw [ecut] at hst
  refine ⟨[(gb,.cells (T.cells (pre++(l.take j++news++l.drop (j + news.length))++r++post)).toArray e fr)],_,?_,.inr ⟨gb,pre,post,fr,Z,Z,?_,?_⟩,S.setRow hi (j:=0) Z _⟩
  ·grind [zaO]
  ·grind
  grind
theorem zjH {a:Addr}:(storeCells a []).run P w = .ok () w:=rfl
theorem zuS {T:Ty α}{l news:List α}(i:Nat) (hu:X.P.underlying t=some (.slice e)) (hs:za5 X.P e T.sz=true) (hi:H[i]? = some s) (ho:Own T e A C l s) (hr:Rd T X.w0 X.base H A2 C2 news) (hx:ev E x=some (.slice A l.length C)) (hy:ev E y=some (.slice A2 news.length C2)):Does X E H (.call ⟨.builtin .copy,#[x,y],#[t,t2]⟩) (fun v H' => ∃ s',Own T e A C (news.take l.length++l.drop news.length) s'∧v=int ((min news.length l.length:Nat):Int)∧H' = H.set i s') :=
 zaq Z (fun dst ty pos after g ρ w hρ S => by
  have hf:=hr.first (P:=X.P) S (min news.length l.length) (Nat.min_le_left _ _)
  have hmin:Nat.min news.length l.length=min news.length l.length:=rfl
  have hlen:(news.take (min news.length l.length)).length=min news.length l.length:=by grind
  have etake:news.take (min news.length l.length)=news.take l.length:=by
   grind
  have edrop:l.drop (min news.length l.length)=l.drop news.length:=by
   simp_all
  cases A with
  | none =>
   have hC:l=[]∧s=[]:=by
    obtain ⟨r,_,h⟩:=ho
    rcases h with ⟨_,h1,_,h2⟩ | ⟨_,_,_,_,h,_⟩
    ·grind
    grind
   obtain ⟨rfl,rfl⟩:=hC
   have hset:H.set i []=H:=by
    apply zDV
    grind
   refine ⟨_,w,H,?_,S,[],by grind,Z,hset.symm⟩
   simp at hf
   simp [execOp,resolve,invoke,builtin,hρ _ _ hx,hρ _ _ hy,Builtin.copy_,run_underlying hu,zb4 hs,Builtin.lenOf,hmin,hf,goInt]
  | some a =>
   obtain ⟨r,rfl,hor⟩:=ho
   obtain ⟨s',w',hst,ho',S'⟩:=hor.over (P:=X.P) S hi rfl 0 (news.take (min news.length l.length)) kQ
   rw [hlen] at ho'
   simp only [zFr,zDG,zEi,edrop,etake] at ho'
   have ha:a.add (0 * T.sz)=a:=by rw [Nat.zero_mul]; rfl
   rw [ha] at hst
   refine ⟨_,w',_,?_,S',s',⟨r,?_,ho'⟩,Z,Z⟩
   ·simp [execOp,resolve,invoke,builtin,hρ _ _ hx,hρ _ _ hy,Builtin.copy_,run_underlying hu,zb4 hs,Builtin.lenOf,hmin,hf,hst,goInt]
   grind)
theorem zpY {dst:Option Tmp}{T:Ty α}{l news:List α}(i:Nat) (hu:X.P.underlying t=some (.slice e)) (hs:za5 X.P e T.sz=true) (hi:H[i]? = some s) (ho:Own T e A C l s) (hr:Rd T X.w0 X.base H A2 C2 news) (hg:Wd X ops E g) (hd:zcq X.n dst=true)
  (hx:ev E x=some (.slice A l.length C)) (hy:ev E y=some (.slice A2 news.length C2))
  (hk:∀ s',Own T e A C (news.take l.length++l.drop news.length) s'→AtL X ops os k (putE E dst (int ((min news.length l.length:Nat):Int))) ds (H.set i s')) :
  AtL X ops (⟨dst,.call ⟨.builtin .copy,#[x,y],#[t,t2]⟩,ty,pos,after,g⟩::os) k E ds H :=
 AtL.of (zuS i hu hs hi ho hr hx hy) hg hd fun _ _ ⟨s',h',hv,hH⟩ => by grind
theorem zuI {T:Ty α}{l:List α}{u:α}(i j:Nat) (hsz:za5 X.P t T.sz=true) (hi:H[i]? = some s) (ho:Own T e A C l s) (hj:j < l.length) (hx:ev E x=some (.pointer (some (zdt A (j * T.sz))))) (hy:ev E y=some (T.val u)):Does X E H (.store t x y) (fun v H' => ∃ s',Own T e A C (l.set j u) s'∧v=undef∧H' = H.set i s') :=
 zcL Z (fun dst ty pos after g ρ w hρ S => by
  cases A with
  | none =>
   obtain ⟨r,_,h⟩:=ho
   rcases h with ⟨_,rfl,_⟩ | ⟨_,_,_,_,h,_⟩
   ·grind
   grind
  | some a =>
   obtain ⟨r,rfl,hor⟩:=ho
   obtain ⟨s',w',hst,ho',S'⟩:=hor.over (P:=X.P) S hi rfl j [u] (by grind)
   have hc1:T.cells [u]=(T.val u).cells.toList:=by simp [Ty.cells]
   rw [hc1] at hst
   have hset:l.take j++[u]++l.drop (j + [u].length)=l.set j u:=by
    simp_all [zFy,zDi]
   rw [hset] at ho'
   refine ⟨w',_,?_,S',s',⟨r,by grind,ho'⟩,Z,Z⟩
   have hst2:(storeCells (a.add (j * T.sz)) (T.val u).cells.toList).run X.P w = .ok () w':=hst
   simp [execOp,hρ _ _ hx,hρ _ _ hy,Instr.storeAt,Instr.sureAddr,storeVar,zb4 hsz,T.ok,zdt,hst2])
theorem zkJ {T:Ty α}{l:List α}{u:α}(i j:Nat) (hsz:za5 X.P t T.sz=true) (hi:H[i]? = some s) (ho:Own T e A C l s) (hj:j < l.length) (hg:Wd X ops E g)
  (hx:ev E x=some (.pointer (some (zdt A (j * T.sz))))) (hy:ev E y=some (T.val u))
  (hk:∀ s',Own T e A C (l.set j u) s'→AtL X ops os k E ds (H.set i s')) :
  AtL X ops (⟨none,.store t x y,ty,pos,after,g⟩::os) k E ds H :=
 AtL.of (zuI i j hsz hi ho hj hx hy) hg rfl fun _ _ ⟨s',h',hv,hH⟩ => by subst hv; subst hH; exact hk s' h'
theorem znc {T:Ty α}{z:α}(hT:ElemOk X.P t e T z by_) (hzs:T.sz≠0) (hx:ev E x=some (.int kk (n:Int))) (hy:ev E y=some (.int k2 (c:Int))) (hnc:n≤c) (hc:c * by_≤140737488355328):Does X E H (.makeSlice t x y) (fun v H' => ∃ A' s',Own T e A' c (List.replicate n z) s'∧OwnR T e A' (List.replicate n z) (List.replicate (c - n) z) s'∧v = .slice A' (List.replicate n z).length c∧H' = s'::H) :=
 zaq Z (fun dst ty pos after g ρ w hρ S => by
  obtain ⟨io,hio,hsz,hby,hz⟩:=hT.info
  have hpos:=hT.pos
  have hcl:c≤140737488355328:=zEv (zFt _ hpos) hc
  have hR:OwnR T e (some ⟨w.heap.size,0,none⟩) (List.replicate n z) (List.replicate (c - n) z) [(w.heap.size,.cells (T.cells (List.replicate c z)).toArray e (0,0))]:=by
   refine .inr ⟨w.heap.size,[],[],(0,0),by simp,?_,zaY _,by grind⟩
   simp_all
  have hO:Own T e (some ⟨w.heap.size,0,none⟩) c (List.replicate n z) [(w.heap.size,.cells (T.cells (List.replicate c z)).toArray e (0,0))]:=⟨_,by grind,hR⟩
  refine ⟨.slice (some ⟨w.heap.size,0,none⟩) n c,_,_,?_,S.alloc _,_,_,hO,hR,by grind,Z⟩
  have hw1:IntKind.i64.wrap (n:Int)=n:=w64 kQ kQ
  have hw2:IntKind.i64.wrap (c:Int)=c:=w64 kQ kQ
  have hbig:¬ ((281474976710656:Int) < (by_:Int) * (c:Int)):=by
   grind
  have h1:¬ ((c:Int) < 0):=by omega
  have h2:¬ ((n:Int) < 0):=by omega
  have h3:¬ ((c:Int) < (n:Int)):=by omega
  have hasi:∀ (q:IntKind) (m:Nat) (w:World),(asInt (.int q (m:Int))).run X.P w = .ok (m:Int) w:=fun q m w => by simp [asInt,asIntOf]
  have hrow:((Array.range (c * T.sz)).map fun i => (T.val z).cells[i % (T.val z).cells.size]!)=(T.cells (List.replicate c z)).toArray:=by
   have:=zgL (T.val z).cells c
   rw [T.ok] at this ⊢
   rw [this,zee]
  by_cases h0:c * T.sz=0
  ·have hc0:c=0:=by
    grind [Nat.mul_eq_zero,absurd]
   subst hc0
   have hn0:n=0:=by omega
   subst hn0
   simp only [execOp,hρ _ _ hx,hρ _ _ hy,Instr.makeSlice,Sem.run_bind,run_underlying hT.u,Result.andThen_ok,hasi,typeInfo,run_program,hio,Sem.run_pure,sizeOf,hsz]
   have hw0:IntKind.i64.wrap 0=0:=by decide
   have er:∀ f:Nat→Value,(Array.range 0).map f = #[]:=fun f => by
    grind
   simp [hw0,newRow,Ty.cells,hio,er]
  ·simp only [execOp,hρ _ _ hx,hρ _ _ hy,Instr.makeSlice,Sem.run_bind,run_underlying hT.u,Result.andThen_ok,hasi,typeInfo,run_program,hio,Sem.run_pure,sizeOf,hsz]
   have hc0:¬ c=0:=fun e => h0 (by grind)
   simp [hw1,hw2,hby,hbig,h1,h2,h3,hc0,newRow,zeroValue,typeInfo,hio,hz,hnc,hzs,hsz]
   grind)
theorem zg6 {T:Ty α}{z:α}(hT:ElemOk X.P t e T z by_) (hzs:T.sz≠0) (hg:Wd X ops E g) (hd:Nat.blt d X.n=true) (hx:ev E x=some (.int kk (n:Int))) (hy:ev E y=some (.int k2 (c:Int))) (hnc:n≤c) (hc:c * by_≤140737488355328)
  (hk:∀ A' s',Own T e A' c (List.replicate n z) s'→OwnR T e A' (List.replicate n z) (List.replicate (c - n) z) s'→AtL X ops os k ((d,.slice A' (List.replicate n z).length c)::E) ds (s'::H)) :
  AtL X ops (⟨some d,.makeSlice t x y,ty,pos,after,g⟩::os) k E ds H :=
 AtL.of (znc hT hzs hx hy hnc hc) hg hd fun _ _ ⟨A',s',h',h2',hv,hH⟩ => by subst hv; subst hH; exact hk A' s' h' h2'
theorem zhC {l:yB}(hs:X.P.underlying src=some .string) (hu:X.P.underlying dst=some (.slice e)) (he:X.P.underlying e=some (.int .u8)) (hl:l.length≤9223372036854775807) (hx:ev E x=some (str l)):Does X E H (.convert src dst x) (fun v H' => ∃ A' C' s',A'≠none∧Own tyB e A' C' l s'∧v = .slice A' l.length C'∧H' = s'::H) :=
 zaq Z (fun dst' ty pos after g ρ w hρ S => by
  have hrun:=run_bytes_of_string (P:=X.P) w src dst e ⟨⟨l⟩⟩ hs hu he
  have hge:=grownCap_ge w l.length 0 e
  have hcm:grownCap w l.length 0 e≤maxLen:=grownCap_le_maxLen w l.length 0 e (by grind [maxLen])
  have erow:bytesRow ⟨⟨l⟩⟩ (grownCap w l.length 0 e)=(tyB.cells ([]++l++List.replicate (grownCap w l.length 0 e - l.length) 0++[])).toArray:=by
   simp_all [bytesRow,zD5,zfn,byt,zba]
  have hS:Sep X.w0 X.base (w.drew.alloc (.cells (bytesRow ⟨⟨l⟩⟩ (grownCap w l.length 0 e)) e ((bytesRow ⟨⟨l⟩⟩ (grownCap w l.length 0 e)).size,(bytesRow ⟨⟨l⟩⟩ (grownCap w l.length 0 e)).size + 1))) _:=(S.drawn (w.drawn + 1)).alloc _
  refine ⟨_,_,_,?_,hS,some ⟨w.heap.size,0,none⟩,grownCap w l.length 0 e,_,by simp,⟨List.replicate (grownCap w l.length 0 e - l.length) 0,by grind,.inr ⟨w.heap.size,[],[],_,by simp,by rw [← erow],?_,by simp only [maxLen] at hcm; grind⟩⟩,Z,Z⟩
  ·rw [zba] at hrun
   have hrun' : (convert src dst (str l)).run X.P w=_:=hrun
   simp_all [execOp]
  ·intro j hj
   grind [Bool.and_eq_false_iff,decide_eq_false_iff_not,List.size_toArray,zaC])
theorem zcF {l:yB}(hs:X.P.underlying src=some .string) (hu:X.P.underlying dst=some (.slice e)) (he:X.P.underlying e=some (.int .u8)) (hl:l.length≤9223372036854775807) (hg:Wd X ops E g) (hd:Nat.blt d X.n=true) (hx:ev E x=some (str l))
  (hk:∀ A' C' s',A'≠none→Own tyB e A' C' l s'→AtL X ops os k ((d,.slice A' l.length C')::E) ds (s'::H)) :
  AtL X ops (⟨some d,.convert src dst x,ty,pos,after,g⟩::os) k E ds H :=
 AtL.of (zhC hs hu he hl hx) hg hd fun _ _ ⟨A',C',s',hn,h',hv,hH⟩ => by subst hv; subst hH; exact hk A' C' s' hn h'
theorem zpU {l:yB}(hr:Rd tyB X.w0 X.base H A C l) (hs:X.P.underlying src=some (.slice e)) (he:X.P.underlying e=some (.int .u8)) (hu:X.P.underlying dst=some .string) (hx:ev E x=some (.slice A l.length C)):Does X E H (.convert src dst x) (fun v H' => v=str l∧H' = H) :=
 zaq Z (fun dst' ty pos after g ρ w hρ S => by
  refine ⟨_,w,H,?_,S,Z,Z⟩
  have:(convert src dst (.slice A l.length C)).run X.P w = .ok (str l) w:=by
   cases A with
   | none =>
    have hC:=hr.nil rfl
    have hl:=hr.le
    have:l=[]:=zDk kQ
    subst this
    exact run_convert_bytes_nil w src e hs he _ _ dst hu
   | some a =>
    refine run_convert_bytes_back w src dst e a C l hs he hu (fun j hj => ?_)
    obtain ⟨b,off,ha,hc⟩:=hr.cells (by grind)
    cases ha
    rw [zaO]
    refine hc w S j _ ?_
    rw [zfn,zEc,zDJ hj]
    rfl
  simp_all [execOp])
theorem zcw {l:yB}(hr:Rd tyB X.w0 X.base H A C l) (hs:X.P.underlying src=some (.slice e)) (he:X.P.underlying e=some (.int .u8)) (hu:X.P.underlying dst=some .string) (hg:Wd X ops E g) (hd:Nat.blt d X.n=true) (hx:ev E x=some (.slice A l.length C))
  (hk:AtL X ops os k ((d,str l)::E) ds H) :
  AtL X ops (⟨some d,.convert src dst x,ty,pos,after,g⟩::os) k E ds H :=
 AtL.of (zpU hr hs he hu hx) hg hd fun _ _ ⟨hv,hH⟩ => by subst hv; subst hH; exact hk
end
theorem zgE (h:n=m):some (Value.slice A n C)=some (Value.slice A m C):=by rw [h]
theorem zgP {b:Int}(h:a=b):some (Value.int kk a)=some (Value.int kk b):=by rw [h]
theorem znC (T:Ty α) (e:TypeId) (b:Nat) (l:List α) (n:Nat) (cs:List Value) (hcs:cs=T.cells l) (hn:n=l.length) (hle:l.length≤9223372036854775807) :
  ∃ s,s=[(b,Obj.cells cs.toArray e (0,0))]∧Own T e (some ⟨b,0,none⟩) n l s:=by
 subst hcs; subst hn
 refine ⟨_,Z,[],by simp,.inr ⟨b,[],[],(0,0),by simp,by simp,zaY _,by omega⟩⟩
theorem zg5 (t:Nat) (hb:Env.get E t=some (.slice A n C)) (hn:m=n)
  (h:AtL X ops os k ((t,.slice A m C)::E) ds H):AtL X ops os k E ds H:=by
 subst hn
 intro is hi a w ha S
 refine h is hi a w ⟨ha.size,fun u v hu => ?_⟩ S
 simp only [Env.get] at hu
 by_cases e:t=u
 ·subst e
  simp at hu
  subst hu
  exact ha.get t _ hb
 ·rw [zbh e] at hu
  exact ha.get u v hu
theorem ze5 (l news:List α):(news.take l.length++l.drop news.length).length=l.length:=by grind
theorem zau (T:Ty α) {l:List α}(hcs:cs=(T.cells l).toArray) (hn:n=l.length) (hle:l.length≤9223372036854775807)
  (h:∀ s,Own T e (some ⟨b,0,none⟩) n l s→AtL X ops os k E ds (s::H)):AtL X ops os k E ds ([(b,.cells cs e (0,0))]::H):=by
 obtain ⟨s,hs,ho⟩:=znC T e b l n _ rfl hn hle
 grind
theorem zaw {fr:Nat×Nat}(i j o:Nat) (hi:H[i]? = some s) (hj:s[j]? = some (b,.cells cs e fr)) (hv:(cs.toList.drop o).take vs.length=vs) :
  ∀ q v,vs[q]? = some v→Cell w0 base H ((⟨b,o,none⟩:Addr).add q) v:=by
 grind [zaO,Cell.own]
def zcO (o:Oper):List Nat:=(o.after.toList.filter (Region.binds .any)).map (·.on)
def zrj:List Operand→List Nat
 | [] => []
 | .tmp t::xs => t::zrj xs
 | _::xs => zrj xs
def zaR (os:List Oper) (o:Oper):List Nat:=zrj o.op.operands.toList++(match o.guard with
 | some (j,_) => match os[j]? with
  | some p => p.dst.toList
  | none => []
 | none => [])
def zco:List Oper→List Nat→List Nat
 | [],acc => acc
 | o::os,acc => zco os (acc++[(zcO o).foldl (fun s j => s ||| 2 ^ j ||| acc.getD j 0) 0])
def befB (M:List Nat) (j i:Nat):Bool:=(M.getD i 0).testBit j
def zdl (o:Oper) (t:Nat):Bool:=match o.dst with
 | some d => Nat.beq d t
 | none => false
def zx7 (M:List Nat) (os:List Oper) (i:Nat) (o:Oper) (j:Nat) (p:Oper):Bool :=
 Nat.beq i j || (match p.dst with
  | none => true
  | some t => !((zaR os o).any (Nat.beq t) || zdl o t) || (if Nat.blt j i then befB M j i else befB M i j))
def zfx (os:List Oper):Bool :=
 let M:=zco os []
 os.zipIdx.all fun (o,i) => os.zipIdx.all fun (p,j) => zx7 M os i o j p
def zfc (os:List Oper):Bool:=os.zipIdx.all fun (o,i) => (zcO o).all fun j => Nat.blt j i
section zco
theorem zqK (acc:List Nat) (l:List Nat) (s j:Nat) (h:(l.foldl (fun s j => s ||| 2 ^ j ||| acc.getD j 0) s).testBit j=true):s.testBit j=true∨∃ i ∈ l,i=j∨(acc.getD i 0).testBit j=true:=by
 induction l generalizing s with
 | nil => grind
 | cons a l ih =>
  rcases ih _ h with h | ⟨i,hi,h⟩
  ·grind
  grind
theorem zhO (os:List Oper) (acc:List Nat) (i:Nat) (hi:i < acc.length):(zco os acc).getD i 0=acc.getD i 0:=by
 induction os generalizing acc with
 | nil => rfl
 | cons o os ih =>
  rw [zco,ih _ (by grind)]
  grind
theorem zwa (os:List Oper) (acc:List Nat) (i:Nat) (o:Oper) (ho:os[i]? = some o) (j:Nat) (h:((zco os acc).getD (acc.length + i) 0).testBit j=true) :
  ∃ m ∈ zcO o,m=j∨((zco os acc).getD m 0).testBit j=true:=by
 induction os generalizing acc i with
 | nil => grind
 | cons p os ih =>
  cases i with
  | zero =>
   simp only [zDX,zEH] at ho
   subst ho
   rw [zco,zhO _ _ _ kY] at h
   simp only [zDZ,List.getD,zEy (zDe _),zF6,zDX,zEg] at h
   rcases zqK acc (zcO p) 0 j h with h | ⟨m,hm,h⟩
   ·grind
   grind [zco,Nat.lt_or_ge,List.getD,List.getElem?_eq_none,zhO,List.getElem?_append_left]
  | succ i =>
   simp only [zDz] at ho
   rw [zco] at h ⊢
   grind
theorem zi4 (os:List Oper) (acc:List Nat):(zco os acc).length=acc.length + os.length:=by
 induction os generalizing acc with
 | nil => simp [zco]
 | cons o os ih => grind [zco]
theorem zgb {D:Nat→Prop}(hD:∀ i o,os[i]? = some o→D i→∀ j ∈ zcO o,D j) (hdl:zfc os=true):∀ (i:Nat) (o:Oper),os[i]? = some o→(∀ j ∈ zcO o,D j)→∀ j,befB (zco os []) j i=true→D j:=by
 intro i
 induction i using Nat.strongRecOn with
 | _ i ih =>
  intro o ho hr j hb
  have h:=zwa os [] i o ho j (by grind [befB])
  obtain ⟨m,hm,h⟩:=h
  have hDm:=hr m hm
  rcases h with rfl | h
  ·omega
  ·have hlt:m < i:=by
    have:=zDa.1 hdl (o,i) (zDd.2 ⟨i,by grind⟩)
    simp_all
   cases hp:os[m]? with
   | none =>
    grind
   | some p => exact ih m hlt p hp (hD m p hp hDm) j h
end zco
def zhq (os:List Oper):Nat→Nat→Option Nat
 | 0,_ => none
 | i + 1,t => match os[i]? with
  | some o => match zdl o t with
   | true => some i
   | false => zhq os i t
  | none => zhq os i t
def look (os:List Oper) (E0 val:Env) (i t:Nat):Option Value:=match zhq os i t with
 | some j => Env.get val j
 | none => Env.get E0 t
def preL (os:List Oper) (E0 val:Env) (i:Nat):List Nat→Env
 | [] => []
 | t::ts => match look os E0 val i t with
  | some v => (t,v)::preL os E0 val i ts
  | none => preL os E0 val i ts
def pre (os:List Oper) (E0 val:Env) (i:Nat):Env:=match os[i]? with
 | some o => preL os E0 val i (zaR os o)
 | none => []
def finE:List Oper→Nat→Env→Env→Env
 | [],_,_,E => E
 | o::os,i,val,E => finE os (i + 1) val (match o.dst,Env.get val i with
  | some d,some v => (d,v)::E
  | _,_ => E)
def zdg (os:List Oper) (E:Env) (g:Option (Nat×Bool)) (b:Bool):Prop:=match g with
 | none => b=true
 | some (j,want) => ∃ p t c,os[j]? = some p∧p.dst=some t∧Env.get E t=some (.bool c)∧(c == want)=b
def zjr (X:Pt) (os:List Oper) (E0 val:Env) (H:List Seg) (i:Nat) (v:Value):Prop :=
 ∃ o,os[i]? = some o∧zcq X.n o.dst=true∧((zdg os (pre os E0 val i) o.guard true∧Does X (pre os E0 val i) H o.op (Is v H))∨(zdg os (pre os E0 val i) o.guard false∧v=undef))
theorem zpr {v:Value}{A:Prop}(h1:os[i]? = some o) (h2:zcq X.n o.dst=true) (h3:zdg os (pre os E0 val i) o.guard true) (h:Does X (pre os E0 val i) H o.op (Is v H)):A∨zjr X os E0 val H i v:=.inr ⟨o,h1,h2,.inl ⟨h3,h⟩⟩
def PureL (X:Pt) (os:List Oper) (E0 val xv:Env) (H:List Seg):Env→Prop
 | [] => True
 | (i,v)::r => ((xv.any fun p => befB (zco os []) i p.1)=true∨zjr X os E0 val H i v)∧PureL X os E0 val xv H r
def zaj (val:Env) (i:Nat):Bool:=(Env.get val i).isSome
def waits (os:List Oper) (val:Env) (e:Nat):Bool:=os.zipIdx.all fun (o,i) => zaj val i || Nat.beq i e || (zcO o).any fun j => !zaj val j
def Ph (X:Pt) (os:List Oper) (k:List Item) (E0:Env) (ds:List Deferred):List Nat→Env→Env→List Seg→Prop
 | [],pv,xv,H => PureL X os E0 (pv++xv) xv H pv∧(os.zipIdx.all fun (_,i) => zaj (pv++xv) i)=true∧At X k (finE os 0 (pv++xv) E0) ds H
 | e::es,pv,xv,H => PureL X os E0 (pv++xv) xv H pv∧((e::es).all fun x => !zaj (pv++xv) x)=true∧(es.all fun x => !Nat.beq x e)=true∧waits os (pv++xv) e=true ∧
  ∃ o,os[e]? = some o∧zcq X.n o.dst=true∧zdg os (pre os E0 (pv++xv) e) o.guard true∧∃ R,Does X (pre os E0 (pv++xv) e) H o.op R ∧
   ∀ v H',R v H'→∃ pv',(pv'.all fun p => !zaj (pv++xv) p.1 && !Nat.beq p.1 e)=true∧Ph X os k E0 ds es (pv'++pv) ((e,v)::xv) H'
theorem zhu {v:Value}(h:Env.get E i=some v):(i,v) ∈ E:=by
 induction E with
 | nil => grind [Env.get]
 | cons p E ih =>
  grind [Env.get,zbh]
theorem za1 (a b:Env) (i:Nat):Env.get (a++b) i=match Env.get a i with | some v => some v | none => Env.get b i:=by
 induction a with
 | nil => rfl
 | cons p a ih =>
  grind [Env.get,Nat.beq]
theorem PureL.get {xv:Env}{pv:Env}(h:PureL X os E0 val xv H pv) {v:Value}(hi:Env.get pv i=some v):(xv.any fun p => befB (zco os []) i p.1)=true∨zjr X os E0 val H i v:=by
 induction pv with
 | nil => grind [Env.get]
 | cons p pv ih =>
  obtain ⟨j,u⟩:=p
  simp only [Env.get] at hi
  by_cases e:j=i
  ·subst e
   simp at hi
   subst hi
   exact h.1
  ·rw [zbh e] at hi
   exact ih h.2 hi
theorem zqB {t:Nat}(h:zhq os i t=some j):j < i∧(∃ o,os[j]? = some o∧zdl o t=true)∧∀ m,j < m→m < i→∀ o,os[m]? = some o→zdl o t=false:=by
 induction i with
 | zero => grind [zhq]
 | succ i ih =>
  grind [zhq,zdl]
theorem zqC {t:Nat}(h:zhq os i t=none):∀ m,m < i→∀ o,os[m]? = some o→zdl o t=false:=by
 induction i with
 | zero => omega
 | succ i ih =>
  grind [zhq,zdl]
structure AgD (n:Nat) (os:List Oper) (E0 val:Env) (D:Nat→Prop) (a:Array Value):Prop where
  size:a.size=n
  done:∀ j o t v,D j→os[j]? = some o→o.dst=some t→(∀ m,j < m→D m→∀ p,os[m]? = some p→zdl p t=false)→Env.get val j=some v→a.getD t undef=v
  old:∀ t v,(∀ m,D m→∀ p,os[m]? = some p→zdl p t=false)→Env.get E0 t=some v→a.getD t undef=v
theorem zdE {t:Nat}:zdl o t=true↔o.dst=some t:=by
 unfold zdl
 cases o.dst with
 | none => simp
 | some d =>
  simp_all
theorem zhj (h:zfx os=true) {p:Oper}(hi:os[i]? = some o) (hj:os[j]? = some p) (hne:i≠j) {t:Nat}(hp:p.dst=some t) (ht:t ∈ zaR os o∨o.dst=some t) :
  (j < i→befB (zco os []) j i=true)∧(i < j→befB (zco os []) i j=true):=by
 have h1:=zDa.1 h (o,i) (zDd.2 ⟨i,by grind⟩)
 have h2:=zDa.1 h1 (p,j) (zDd.2 ⟨j,by grind⟩)
 unfold zx7 at h2
 simp only [zbh hne,hp] at h2
 have hc:((zaR os o).any (Nat.beq t) || zdl o t)=true:=by
  simp_all [zDw,zDP,zdE]
 simp only [zFS,hc,zFz] at h2
 constructor
 ·intro hlt
  simp_all
 ·intro hlt
  have hb:Nat.blt j i=false:=by
   cases hb:Nat.blt j i with
   | false => rfl
   | true => have:=zdr hb; omega
  grind
section
variable {os:List Oper}{E0 val:Env}{D:Nat→Prop}{a:Array Value}{n:Nat}
theorem AgD.pre (h:AgD n os E0 val D a) (hok:zfx os=true) (hdl:zfc os=true) (hD:∀ i o,os[i]? = some o→D i→∀ j ∈ zcO o,D j) (ho:os[i]? = some o) (hn:¬ D i) (hr:∀ j ∈ zcO o,D j):Agree n a (pre os E0 val i):=by
 refine ⟨h.size,?_⟩
 have key:∀ ts:List Nat,(∀ t ∈ ts,t ∈ zaR os o)→∀ t v,Env.get (preL os E0 val i ts) t=some v→a.getD t undef=v:=by
  intro ts
  induction ts with
  | nil => grind [preL,Env.get]
  | cons t0 ts ih =>
   intro hts t v hv
   simp only [preL] at hv
   have hts' : ∀ t ∈ ts,t ∈ zaR os o:=fun t ht => hts t (by grind)
   cases hl:look os E0 val i t0 with
   | none => grind
   | some u =>
    rw [hl] at hv
    simp only [Env.get] at hv
    by_cases e:t0=t
    ·subst e
     simp at hv
     subst hv
     have hread:=hts t0 kY
     have later:∀ m,i < m→D m→∀ p,os[m]? = some p→zdl p t0=false:=by
      intro m hm hDm p hp
      cases hg:zdl p t0 with
      | false => rfl
      | true =>
       have:=(zhj hok ho hp kQ (zdE.1 hg) (.inl hread)).2 hm
       exact absurd (zgb hD hdl m p hp (hD m p hp hDm) i this) hn
     unfold look at hl
     cases hw:zhq os i t0 with
     | none =>
      rw [hw] at hl
      refine h.old t0 u (fun m hDm p hp => ?_) hl
      grind [Nat.lt_trichotomy,zqC,absurd]
     | some j =>
      rw [hw] at hl
      obtain ⟨hj,⟨p,hp,hg⟩,hbetween⟩:=zqB hw
      have hbef:=(zhj hok ho hp kQ (zdE.1 hg) (.inl hread)).1 hj
      have hDj:=zgb hD hdl i o ho hr j hbef
      refine h.done j p t0 u hDj hp (zdE.1 hg) (fun m hm hDm q hq => ?_) hl
      grind
    grind [zbh]
 grind [Proofs.YtjmnjkoekabioaaGreatDoor.pre]
theorem AgD.step (h:AgD n os E0 val D a) (hok:zfx os=true) (hdl:zfc os=true) (hD:∀ i o,os[i]? = some o→D i→∀ j ∈ zcO o,D j) (ho:os[i]? = some o) (hn:¬ D i) (hd:zcq n o.dst=true) {v:Value}(hv:Env.get val i=some v) :
  AgD n os E0 val (fun j => D j∨j=i) (putA a o.dst v):=by
 have apart:∀ m p t,D m→os[m]? = some p→p.dst=some t→o.dst=some t→m < i:=by
  intro m p t hDm hp hpd hod
  rcases zFY m i with hm | hm | hm
  ·exact hm
  ·grind
  ·have:=(zhj hok ho hp kQ hpd (.inr hod)).2 hm
   exact absurd (zgb hD hdl m p hp (hD m p hp hDm) i this) hn
 have other:∀ t,o.dst≠some t→(putA a o.dst v).getD t undef=a.getD t undef:=by
  intro t ht
  cases hod:o.dst with
  | none => rfl
  | some d =>
   have:d≠t:=by grind
   simp_all [putA,zDu,zFK,zDb]
 refine ⟨?_,?_,?_⟩
 ·cases o.dst <;> simp [putA,h.size]
 ·intro j p t u hDj hp hpd hlast hu
  by_cases e:j=i
  ·subst e
   rw [ho] at hp
   cases hp
   rw [hv] at hu
   cases hu
   rw [hpd] at hd ⊢
   have hlt:=zdr hd
   simp [putA,zDu,h.size,hlt]
  ·have hDj:D j:=hDj.resolve_right e
   have hne:o.dst≠some t:=by
    intro hod
    have hlt:=apart j p t hDj hp hpd hod
    have:=hlast i hlt (.inr rfl) o ho
    grind [zdE]
   rw [other t hne]
   exact h.done j p t u hDj hp hpd (fun m hm hDm q hq => hlast m hm (.inl hDm) q hq) hu
 ·intro t u hno hu
  have hne:o.dst≠some t:=by
   intro hod
   have:=hno i (.inr rfl) o ho
   grind [zdE]
  rw [other t hne]
  exact h.old t u (fun m hDm p hp => hno m (.inl hDm) p hp) hu
theorem AgD.fin (h:AgD n os E0 val D a) (hall:∀ i o,os[i]? = some o→D i) (hk:∀ i o,os[i]? = some o→(Env.get val i).isSome=true):Agree n a (finE os 0 val E0):=by
 refine ⟨h.size,?_⟩
 have key:∀ (l:List Oper) (i:Nat) (E:Env),(∀ m,l[m]? = os[i + m]?)→(∀ t v,Env.get E t=some v→(∀ m,i≤m→∀ p,os[m]? = some p→zdl p t=false)→a.getD t undef=v)→∀ t v,Env.get (finE l i val E) t=some v→a.getD t undef=v:=by
  intro l
  induction l with
  | nil =>
   intro i E hl hE t v hv
   refine hE t v hv (fun m hm p hp => ?_)
   have:=hl (m - i)
   grind
  | cons o l ih =>
   intro i E hl hE t v hv
   have ho:os[i]? = some o:=by have:=hl 0; grind
   rw [finE] at hv
   refine ih (i + 1) _ (fun m => ?_) (fun t' u hu hno => ?_) t v hv
   ·have:=hl (m + 1)
    grind
   ·cases hd:o.dst with
    | none =>
     grind [zdl]
    | some d =>
     have hsome:=hk i o ho
     cases hg:Env.get val i with
     | none => grind
     | some x =>
      rw [hd,hg] at hu
      simp only [Env.get] at hu
      by_cases e:d=t'
      ·subst e
       simp at hu
       subst hu
       exact h.done i o d x (hall i o ho) ho hd (fun m hm hDm p hp => hno m kQ p hp) hg
      grind [zbh,zdl]
 refine key os 0 E0 (fun m => by simp) (fun t v hv hno => ?_)
 exact h.old t v (fun m _ p hp => hno m (zDq _) p hp) hv
end
def Dn (l:Array Bool) (i:Nat):Prop:=l.getD i false=true
theorem ziR {l:Array Bool}(h:i ∈ Region.ready .any ops l):∃ o,ops[i]? = some o∧l.getD i true=false∧∀ j ∈ zcO o,Dn l j:=by
 unfold Region.ready at h
 rw [zEs] at h
 obtain ⟨h1,h2⟩:=h
 rw [zC9,zDQ] at h2
 obtain ⟨h2,h3⟩:=h2
 cases ho:ops[i]? with
 | none => grind
 | some o =>
  rw [ho] at h3
  simp only [zDN,zEg] at h3
  refine ⟨o,Z,h2,fun j hj => ?_⟩
  obtain ⟨e,he,rfl⟩:=zDC.1 hj
  grind [Array.all_eq_true_iff_forall_mem,Dn,Array.getD_eq_getD_getElem?]
theorem zhy (f:Nat→Bool) (i:Nat) (hf:f i=false):∀ (r:List Nat),r.Nodup→i ∈ r→(r.filter fun j => (f j || Nat.beq j i)).length=(r.filter f).length + 1:=by
 intro r
 induction r with
 | nil => grind
 | cons b r ihr =>
  intro hnd2 hm
  rw [zE5] at hnd2
  by_cases e:b=i
  ·subst e
   have hsame2:(r.filter fun j => (f j || Nat.beq j b))=r.filter f:=by
    apply zER
    intro j hj
    have:j≠b:=by grind
    simp_all
   simp_all
  ·have hm' : i ∈ r:=by grind
   have:=ihr hnd2.2 hm'
   rw [zEL,zEL,zbh e,zEz]
   cases f b <;> simp [this]
theorem zsm {l:Array Bool}(h:l.getD i true=false):¬ Dn l i:=by
 unfold Dn
 grind
theorem ztQ {l:Array Bool}(hi:i < l.size) (j:Nat):Dn (l.setIfInBounds i true) j↔Dn l j∨j=i:=by
 unfold Dn
 rw [zDu,zDu,zFK]
 grind
theorem zlA {l:Array Bool}(hdl:zfc ops.toList=true) (hs:l.size=ops.size) (h:Region.ready .any ops l=[]):∀ i o,ops.toList[i]? = some o→Dn l i:=by
 intro i
 induction i using Nat.strongRecOn with
 | _ i ih =>
  intro o ho
  have hlt:i < ops.size:=by grind
  cases hb:l.getD i true with
  | true =>
   unfold Dn
   grind
  | false =>
   exfalso
   have hdeps:∀ j ∈ zcO o,Dn l j:=by
    intro j hj
    have h1:=zDa.1 hdl (o,i) (zDd.2 ⟨i,by grind⟩)
    grind [zdr,List.all_eq_true,List.getElem?_eq_getElem]
   have hmem:i ∈ Region.ready .any ops l:=by
    unfold Region.ready
    rw [zEs]
    refine ⟨zD1.2 hlt,?_⟩
    rw [zC9,hb]
    refine ⟨Z,?_⟩
    have ho' : ops[i]? = some o:=by grind
    rw [ho']
    simp only [zDN,zEg]
    rw [zFB]
    intro e he
    rw [zDw,zDQ]
    cases hbd:Region.binds .any e with
    | false => grind
    | true => exact .inr (hdeps e.on (zDC.2 ⟨e,zEs.2 ⟨by grind,hbd⟩,rfl⟩))
   grind
section
variable {X:Pt}{k:List Item}{E0:Env}{ds:List Deferred}{ops:Array Oper}
theorem zdz {a:Array Value}(ha:Agree X.n a (pre ops.toList E0 val i)) (hn:∀ t v,Env.get (pre ops.toList E0 val i) t=some v→t < X.n) (h:zdg ops.toList (pre ops.toList E0 val i) o.guard true):Region.wanted o (yielded ops a)=true:=by
 unfold zdg at h
 cases hg:o.guard with
 | none => simp [Region.wanted,hg]
 | some gw =>
  obtain ⟨j,want⟩:=gw
  rw [hg] at h
  obtain ⟨p,t,c,hp,hpd,hc,hcw⟩:=h
  have hp' : ops[j]? = some p:=by grind
  have:=zfV (ops:=ops) (j:=j) (t:=t) ha (by grind) (by simp_all) hc
  grind [Region.wanted]
theorem zgj {a:Array Value}(ha:Agree X.n a (pre ops.toList E0 val i)) (hn:∀ t v,Env.get (pre ops.toList E0 val i) t=some v→t < X.n) (h:zdg ops.toList (pre ops.toList E0 val i) o.guard false):Region.wanted o (yielded ops a)=false:=by
 unfold zdg at h
 cases hg:o.guard with
 | none => grind
 | some gw =>
  obtain ⟨j,want⟩:=gw
  rw [hg] at h
  obtain ⟨p,t,c,hp,hpd,hc,hcw⟩:=h
  have hp' : ops[j]? = some p:=by grind
  have:=zfV (ops:=ops) (j:=j) (t:=t) ha (by grind) (by simp_all) hc
  grind [Region.wanted]
theorem zAi (hok:zfx ops.toList=true) (hdl:zfc ops.toList=true) (hrd:(ops.toList.all fun o => (zaR ops.toList o).all fun t => Nat.blt t X.n)=true) :
  ∀ (fuel t:Nat) (l:Array Bool) (es:List Nat) (pv xv:Env) (H:List Seg) (a:Array Value) (w:World),l.size=ops.size→(∀ i o,ops.toList[i]? = some o→Dn l i→∀ j ∈ zcO o,Dn l j) →
   (∀ i o,ops.toList[i]? = some o→Dn l i→zaj (pv++xv) i=true)→(∀ p ∈ xv,Dn l p.1)→(∀ e ∈ es,¬ Dn l e) →
   (ops.size≤fuel + ((List.range ops.size).filter fun i => l.getD i false).length)→Ph X ops.toList k E0 ds es pv xv H→AgD X.n ops.toList E0 (pv++xv) (Dn l) a→Sep X.w0 X.base w H →
   Ev X.P (lone (X.c.fr a ds (.inRegion ops (Region.linearise.go .any ops fuel t l [])::k)) X.cs w) X.G:=by
 intro fuel
 induction fuel with
 | zero =>
  intro t l es pv xv H a w hs hcl hkn hxv hes hf hp ha S
  have hall:∀ i o,ops.toList[i]? = some o→Dn l i:=by
   intro i o ho
   have hlt:i < ops.size:=by grind
   have hle:((List.range ops.size).filter fun i => l.getD i false).length≤ops.size:=by
    grind
   have heq:((List.range ops.size).filter fun i => l.getD i false).length=(List.range ops.size).length:=by grind
   have:=zEZ.1 heq i (zD1.2 hlt)
   exact this
  cases es with
  | cons e es =>
   obtain ⟨_,_,_,_,o,ho,_⟩:=hp
   grind
  | nil =>
   obtain ⟨_,hkn2,hat⟩:=hp
   simp only [Region.linearise.go,zEh]
   refine .step zbI (hat a w (ha.fin hall (fun i o ho => ?_)) S)
   exact hkn i o ho (hall i o ho)
 | succ fuel ih =>
  intro t l es pv xv H a w hs hcl hkn hxv hes hf hp ha S
  simp only [Region.linearise.go]
  split
  ·rename_i i hi
   rw [linearise_go_acc]
   simp only [zFw,zEh,zDG,zEB]
   have hmem:i ∈ Region.ready .any ops l:=zDd.2 ⟨_,hi⟩
   obtain ⟨o,ho,hnl,hdeps⟩:=ziR hmem
   have hnd:=zsm hnl
   have hoL:ops.toList[i]? = some o:=by grind
   have hlt:i < ops.size:=(zDW.1 ho).1
   have hAg:=ha.pre hok hdl hcl hoL hnd hdeps
   have hprelt:∀ t v,Env.get (pre ops.toList E0 (pv++xv) i) t=some v→t < X.n:=by
    have h1:=zDa.1 hrd o (zDd.2 ⟨i,hoL⟩)
    have key:∀ ts:List Nat,(∀ t ∈ ts,t < X.n)→∀ t v,Env.get (preL ops.toList E0 (pv++xv) i ts) t=some v→t < X.n:=by
     intro ts
     induction ts with
     | nil => grind [preL,Env.get]
     | cons t0 ts ih =>
      intro hts t v hv
      simp only [preL] at hv
      split at hv
      ·simp only [Env.get] at hv
       by_cases e:t0=t
       ·subst e; exact hts t0 kY
       grind [zbh]
      grind
    intro t v hv
    unfold pre at hv
    rw [hoL] at hv
    grind [zdr,List.all_eq_true]
   -- what is the same in each case behind the operation
   have after:∀ (es' : List Nat) (pv' xv' : Env) (H' : List Seg) (v:Value) (w' : World),Ph X ops.toList k E0 ds es' pv' xv' H'→Sep X.w0 X.base w' H'→zcq X.n o.dst=true→Env.get (pv'++xv') i=some v →
     (∀ j,zaj (pv++xv) j=true→Env.get (pv'++xv') j=Env.get (pv++xv) j)→(∀ p ∈ xv',Dn l p.1∨p.1=i)→(∀ e ∈ es',e≠i∧¬ Dn l e) →
     Ev X.P (lone (X.c.fr (putA a o.dst v) ds (.inRegion ops (Region.linearise.go .any ops fuel (t / (Region.ready .any ops l).length) (l.setIfInBounds i true) [])::k)) X.cs w') X.G:=by
    intro es' pv' xv' H' v w' hp' S' hd hv hsame hxv' hes'
    have hds:=ztQ (l:=l) (i:=i) kQ
    have hAgD:AgD X.n ops.toList E0 (pv'++xv') (Dn l) a:=by
     refine ⟨ha.size,fun j p t u hDj hp hpd hlast hu => ?_,ha.old⟩
     refine ha.done j p t u hDj hp hpd hlast ?_
     grind
    have hst:=hAgD.step hok hdl hcl hoL hnd hd hv
    refine ih _ _ es' pv' xv' H' _ w' (by grind) ?_ ?_ ?_ ?_ ?_ hp' ?_ S'
    ·grind
    ·intro j p hj hDj
     rw [hds] at hDj
     rcases hDj with hDj | rfl
     ·grind [zaj]
     grind [zaj]
    ·grind
    ·grind
    ·have hcount:((List.range ops.size).filter fun j => (l.setIfInBounds i true).getD j false).length=((List.range ops.size).filter fun j => l.getD j false).length + 1:=by
      have hp:∀ j,(l.setIfInBounds i true).getD j false=(l.getD j false || Nat.beq j i):=by
       intro j
       have:(l.setIfInBounds i true).getD j false=true↔l.getD j false=true∨j=i:=hds j
       rw [zEt,zDw,this]
       constructor
       ·rintro (h | h)
        ·grind
        ·exact .inr (by subst h; simp)
       grind [Nat.eq_of_beq_eq_true]
      have hif:l.getD i false=false:=by
       grind
      have hset:(List.range ops.size).filter (fun j => (l.setIfInBounds i true).getD j false)=(List.range ops.size).filter fun j => ((fun j => l.getD j false) j || Nat.beq j i):=zER fun j _ => hp j
      rw [hset]
      exact zhy _ i hif _ zF7 (zD1.2 hlt)
     omega
    ·refine ⟨hst.size,?_,?_⟩
     ·intro j p t u hDj hp hpd hlast hu
      exact hst.done j p t u ((hds j).1 hDj) hp hpd (fun m hm hDm q hq => hlast m hm ((hds m).2 hDm) q hq) hu
     ·intro t u hno hu
      exact hst.old t u (fun m hDm p hp => hno m ((hds m).2 hDm) p hp) hu
   -- an operation whose value is known in this phase
   have pureCase:∀ v,Env.get pv i=some v→PureL X ops.toList E0 (pv++xv) xv H pv→i ∉ es →
     Ev X.P (lone (X.c.fr a ds (.inRegion ops (i::Region.linearise.go .any ops fuel (t / (Region.ready .any ops l).length) (l.setIfInBounds i true) [])::k)) X.cs w) X.G:=by
    intro v hv hpl hne
    have hone:zjr X ops.toList E0 (pv++xv) H i v:=by
     rcases hpl.get hv with h | h
     ·obtain ⟨p,hp1,hp2⟩:=zDP.1 h
      have hDp:=hxv p hp1
      cases hop:ops.toList[p.1]? with
      | none =>
       exfalso
       have hlen:(zco ops.toList []).length=ops.toList.length:=by grind [zi4]
       grind [zco,List.getElem?_eq_none_iff,List.getD,List.getElem?_eq_none,befB]
      | some q => exact absurd (zgb hcl hdl p.1 q hop (hcl p.1 q hop hDp) i hp2) hnd
     omega
    obtain ⟨o',ho',hd,hor⟩:=hone
    rw [hoL] at ho'; cases ho'
    have hget:Env.get (pv++xv) i=some v:=by rw [za1,hv]
    have hcont:=fun (w' : World) (S' : Sep X.w0 X.base w' H) => after es pv xv H v w' hp S' hd hget (fun j _ => rfl) (fun p hp => .inl (hxv p hp)) (fun e he => ⟨fun h => hne (h ▸ he),hes e he⟩)
    rcases hor with ⟨hw,hdo⟩ | ⟨hw,rfl⟩
    ·obtain ⟨v',H',w',⟨rfl,rfl⟩,S',hst⟩:=hdo o.dst o.type o.pos o.after o.guard ops i _ k ds a w ho (zdz hAg hprelt hw) (fun x u hx => hAg.ev hx) S
     exact .steps hst (hcont w' S')
    ·exact .step (zdF ho (zgj hAg hprelt hw)) (hcont w S)
   cases es with
   | nil =>
    obtain ⟨hpl,hall,hat⟩:=hp
    have hk1:=zDa.1 hall (o,i) (zDd.2 ⟨i,by grind⟩)
    have hk1:zaj (pv++xv) i=true:=hk1
    cases hv:Env.get pv i with
    | some v => exact pureCase v hv hpl kY
    | none =>
     unfold zaj at hk1
     rw [za1,hv] at hk1
     cases hx:Env.get xv i with
     | none => grind
     | some u => exact absurd (hxv _ (zhu hx)) hnd
   | cons e es =>
    have hp0:=hp
    obtain ⟨hpl,hek,hnd2,hwt,oe,hoe,hd,hw,R,hdo,hR⟩:=hp
    have hunk:∀ x ∈ e::es,Env.get (pv++xv) x=none:=by
     intro x hx
     have:=zDa.1 hek x hx
     unfold zaj at this
     cases hg:Env.get (pv++xv) x with
     | none => rfl
     | some u => grind
    by_cases hie:i=e
    ·subst hie
     rw [hoL] at hoe; cases hoe
     obtain ⟨v,H',w',hRv,S',hst⟩:=hdo o.dst o.type o.pos o.after o.guard ops i (Region.linearise.go .any ops fuel (t / (Region.ready .any ops l).length) (l.setIfInBounds i true) []) k ds a w ho (zdz hAg hprelt hw) (fun x u hx => hAg.ev hx) S
     obtain ⟨pv',hpv',hp'⟩:=hR v H' hRv
     refine .steps hst ?_
     have hfresh:∀ j u,Env.get pv' j=some u→Env.get (pv++xv) j=none∧j≠i:=by
      intro j u hj
      have hm:∃ p ∈ pv',p.1=j:=by
       clear hp' hpv'
       induction pv' with
       | nil => grind [Env.get]
       | cons p pv' ihp =>
        simp only [Env.get] at hj
        by_cases e:p.1=j
        ·grind
        ·rw [zbh e] at hj
         obtain ⟨q,hq,hq2⟩:=ihp hj
         grind
      obtain ⟨p,hp1,rfl⟩:=hm
      have:=zDa.1 hpv' p hp1
      rw [zC9,zDQ,zDQ] at this
      refine ⟨?_,?_⟩
      ·have h1:=this.1
       unfold zaj at h1
       cases hg:Env.get (pv++xv) p.1 with
       | none => rfl
       | some u => grind
      ·intro e
       have h2:=this.2
       rw [e] at h2
       simp at h2
     have hi0:=hunk i kY
     have hpi:Env.get pv i=none:=by
      rw [za1] at hi0
      grind
     have hget:Env.get ((pv'++pv)++((i,v)::xv)) i=some v:=by
      rw [za1,za1]
      cases hg:Env.get pv' i with
      | some u => grind
      | none => simp [hpi,Env.get]
     refine after es _ _ H' v w' hp' S' hd hget ?_ ?_ ?_
     ·intro j hj
      have hj0:Env.get (pv++xv) j≠none:=by
       grind [zaj]
      have hji:j≠i:=by grind
      rw [za1,za1,za1]
      cases hg:Env.get pv' j with
      | some u => grind
      | none =>
       cases hg2:Env.get pv j with
       | some u => rfl
       | none => simp only [Env.get,zbh (zFb hji)]
     ·grind
     ·intro e he
      refine ⟨?_,hes e (by grind)⟩
      rintro rfl
      have:=zDa.1 hnd2 e he
      simp at this
    ·have hk1:=zDa.1 hwt (o,i) (zDd.2 ⟨i,by grind⟩)
     have hk1:(zaj (pv++xv) i || Nat.beq i e || (zcO o).any fun j => !zaj (pv++xv) j)=true:=hk1
     have hany:((zcO o).any fun j => !zaj (pv++xv) j)=false:=by
      cases hb:((zcO o).any fun j => !zaj (pv++xv) j) with
      | false => rfl
      | true =>
       obtain ⟨j,hj,hjk⟩:=zDP.1 hb
       have hDj:=hdeps j hj
       have hjlt:j < i:=by
        have h1:=zDa.1 hdl (o,i) (zDd.2 ⟨i,by grind⟩)
        exact zdr (zDa.1 h1 j hj)
       grind
     rw [zbh hie,hany,zEz,zEz] at hk1
     have hnes:i ∉ e::es:=by
      grind
     cases hv:Env.get pv i with
     | some v => exact pureCase v hv hpl hnes
     | none =>
      unfold zaj at hk1
      rw [za1,hv] at hk1
      cases hx:Env.get xv i with
      | none => grind
      | some u => exact absurd (hxv _ (zhu hx)) hnd
  ·rename_i hnone
   have hempty:Region.ready .any ops l=[]:=by
    cases hr:Region.ready .any ops l with
    | nil => rfl
    | cons b r =>
     grind [Region.ready,Nat.mod_lt,absurd,List.getElem?_eq_getElem]
   have hall:=zlA hdl hs hempty
   cases es with
   | cons e es =>
    obtain ⟨_,_,_,_,o,ho,_⟩:=hp
    grind
   | nil =>
    obtain ⟨_,hkn2,hat⟩:=hp
    simp only [zEh]
    refine .step zbI (hat a w (ha.fin hall (fun i o ho => ?_)) S)
    exact hkn i o ho (hall i o ho)
theorem zaN {es:List Nat}{pv:Env}(hm:X.P.follows .mixedOrders=true) (hok:zfx ops.toList=true) (hdl:zfc ops.toList=true) (hrd:(ops.toList.all fun o => (zaR ops.toList o).all fun t => Nat.blt t X.n)=true)
  (hp:Ph X ops.toList k E0 ds es pv [] H):At X (.code (.region id ops true)::k) E0 ds H:=by
 intro a w ha S
 refine .step zek ?_
 have hno:∀ i,¬ Dn (Array.replicate ops.size false) i:=by
  intro i hi
  unfold Dn at hi
  rw [zDu,zFq] at hi
  split at hi <;> simp at hi
 unfold Region.schedule Region.linearise
 rw [hm,Bool.true_or,zDi rfl]
 refine zAi hok hdl hrd ops.size _ _ es pv [] H a _ kY ?_ ?_ ?_ ?_ (zFC _ _) hp ⟨ha.size,?_,?_⟩ (S.drawn _)
 ·grind
 ·grind
 ·grind
 ·grind
 ·grind
 ·exact fun t v _ h => ha.get t v h
theorem zc0 {b c:Bool}(h:Does X E H op (Is (.bool b) H)) (hb:b=c):Does X E H op (Is (.bool c) H):=hb ▸ h
theorem Do.asInt {b c:Int}(h:Does X E H op (Is (.int kk b) H)) (hb:b=c):Does X E H op (Is (.int kk c) H):=hb ▸ h
section
variable {X:Pt}{E:Env}{H:List Seg}{α:Type}{T:Ty α}{xt e:TypeId}{x:Operand}{lo hi mx:Option Operand}{A A' : Option Addr}{C C' : Nat}{l:List α}
theorem zaZ {n' : Nat}(i j m:Nat) (h1:za8 E lo 0 i) (h2:za8 E hi l.length j) (h3:za8 E mx C m) (hmx:mx.isSome=true→hi.isSome=true) (hij:i≤j) (hjm:j≤m) (hm:m≤C)
  (hu:X.P.underlying xt=some (.slice e)) (hs:za5 X.P e T.sz=true) (hx:ev E x=some (.slice A l.length C)) (hA:A' = (if m=i then A else A.map (·.add (i * T.sz)))) (hn:n' = j - i) (hC:C' = m - i) :
  Does X E H (.slice xt x lo hi mx) (Is (.slice A' n' C') H) :=
 zaq rfl (fun dst ty pos after g ρ w hρ S => ⟨_,w,H,zdL (d:=dst) h1 h2 h3 hmx hij hjm hm hu hs hx ρ w hρ,S,by grind,rfl⟩)
end
end
def LoadsTo (P:Program) (w0:World) (base:Nat) (H:List Seg) (t:TypeId) (p:Addr) (v:Value):Prop:=∀ w,Sep w0 base w H→(loadVar t p).run P w = .ok v w
theorem LoadsTo.flat {v:Value}(hf:zgq P t=true) (hc:Cell w0 base H p v):LoadsTo P w0 base H t p v:=fun w S => by
 simp [loadVar,zhr hf,hc w S]
theorem LoadsTo.agg {t:Nat}{cs:List Value}(hf:aggN P t=some n) (hn:cs.length=n) (hc:∀ j v,cs[j]? = some v→Cell w0 base H (p.add j) v):LoadsTo P w0 base H t p (.agg cs.toArray):=fun w S => by
 subst hn
 simp [loadVar,(zfz hf w).1,(zfz hf w).2,run_loadCells_list w p cs (fun j v hv => hc j v hv w S)]
def ResP (P:Program) (w0:World) (base:Nat) (H:List Seg) (E:Env):List ResultVar→List Value→Prop
 | [],[] => True
 | .tmp t::rs,v::vs => Env.get E t=some v∧ResP P w0 base H E rs vs
 | .cell x t::rs,v::vs => (∃ p,Env.get E x=some (.pointer (some p))∧LoadsTo P w0 base H t p v)∧ResP P w0 base H E rs vs
 | _,_ => False
theorem zvL {a:Array Value}(ha:Agree n a E) (S:Sep w0 base w H) (h:ResP P w0 base H E rs vs) :
  (rs.mapM (m:=Sem) fun (r:ResultVar) => match r with
   | .tmp t => (Pure.pure (a.getD t undef):Sem Value)
   | .cell x t => do loadVar t (← asAddr (a.getD x undef))).run P w = .ok vs w:=by
 induction rs generalizing vs with
 | nil => cases vs with
  | nil => rfl
  | cons v vs => exact h.elim
 | cons r rs ih =>
  cases vs with
  | nil => cases r <;> exact h.elim
  | cons v vs =>
   cases r with
   | tmp t =>
    obtain ⟨h1,h2⟩:=h
    rw [zEW]
    simp only [Sem.run_bind,Sem.run_pure,Result.andThen_ok,ih h2,ha.get t v h1]
   | cell x t =>
    obtain ⟨⟨p,h1,h3⟩,h2⟩:=h
    have hp:(asAddr (a.getD x undef)).run P w = .ok p w:=by rw [ha.get x _ h1]; rfl
    rw [zEW]
    simp only [Sem.run_bind,Sem.run_pure,Result.andThen_ok,ih h2,hp,h3 w S]
theorem zgk {a:Array Value}(ha:Agree n a E) (S:Sep w0 base w H) (h:ResP P w0 base H E fn.results.toList vs) :
  (results fn a).run P w = .ok (zc3 vs) w:=by
 have:=zvL (P:=P) ha S h
 unfold results
 rw [zES]
 simp only [Sem.run_bind,zF3,Sem.run_pure] at this ⊢
 refine Eq.trans ?_ (zDh (fun r => Result.ok r w) (show (if h:vs.toArray.size=1 then vs.toArray[0] else .tuple vs.toArray)=zc3 vs from ?_))
 ·exact (zDh (fun r => Result.andThen r _) (zDh (fun r => Result.andThen r _) this)).trans (by simp_all)
 ·match vs with
  | [] => rfl
  | [v] => rfl
  | v::u::vs => rfl
def Un (X:Pt) (m:FrameMode) (E:Env) (ds:List Deferred) (H:List Seg):Prop :=
 ∀ a w k,Agree X.n a E→Sep X.w0 X.base w H→Ev X.P (lone { X.c.fr a ds k with mode:=m } X.cs w) X.G
section
variable {X:Pt}{k:List Item}{E:Env}{ds:List Deferred}{H:List Seg}{ops:Array Oper}{os:List Oper}
theorem Un.mono {m:FrameMode}(hs:Sub E' E) (h:Un X m E' ds H):Un X m E ds H:=fun a w k ha S => h a w k (ha.sub hs) S
theorem Un.pick {m:FrameMode}(is:List Nat) (q:Nat) (hok:zc5 is q=true) (hH:zbj H is q=H') (h:Un X m E ds H'):Un X m E ds H:=fun a w k ha S => h a w k ha (hH ▸ S.pick is q hok)
theorem zbv (hr:X.c.round=none) (h:Un X .returning E ds H):At X (.code .ret::k) E ds H:=fun a w ha S => .step (zte hr) (h a w _ ha S)
theorem zhF (hr:X.c.round=none) (h:Un X .returning E ds H):At X [] E ds H:=fun a w ha S => .step (zth hr) (h a w _ ha S)
end
theorem Un.left {cs:List Frame} 
  (hf:P.funcs[f]? = some fn) (hrs:fn.results.toList=rs) (hv:ResP P w0 base H E rs vs) (hR:R (zc3 vs) H):Un ⟨P,⟨f,.normal,none⟩,n,cs,Left P f cs w0 base R,w0,base⟩ .returning E [] H:=by
 intro a w k ha S
 subst hrs
 exact ⟨_,.refl P _,zc3 vs,H,_,w,rfl,rfl,⟨rfl,rfl,rfl,fn,hf,zgk ha S hv⟩,hR,S⟩
section panics
variable {X:Pt}{k:List Item}{E:Env}{ds:List Deferred}{H:List Seg}{ops:Array Oper}{os:List Oper}
  {dst:Option Tmp}{ty:TypeId}{pos:String}{after:Array Edge}{g:Option (Nat×Bool)}
theorem zkK (hg:Wd X ops E g) (hnd:zbl op=false)
  (h:∀ ρ w,(∀ x v,ev E x=some v→ρ x=v)→Sep X.w0 X.base w H→∃ pv w' H',(execOp ρ ⟨dst,op,ty,pos,after,g⟩).run X.P w = .halt (.panic pv) w'∧Sep X.w0 X.base w' H'∧Un X (.panicking [{ v:=pv,recovered:=false }]) E ds H') :
  AtL X ops (⟨dst,op,ty,pos,after,g⟩::os) k E ds H:=by
 intro is hi a w ha S
 cases is with
 | nil => grind
 | cons i is =>
  simp only [zDo,zD2] at hi
  obtain ⟨ho,hi⟩:=hi
  obtain ⟨pv,w',H',hr,S',hk⟩:=h (evA a) w (fun x v hx => ha.ev hx) S
  refine .step (step_lone_go ?_) (hk a w' (.inRegion ops (i::is)::k) ha S')
  rw [zcn ho (hg.wanted (o:=⟨dst,op,ty,pos,after,g⟩) ha) (.inl hnd)]
  simp [stepG.apply,hr,Frame.raise,Ctx.fr]
theorem zhU (S:Sep w0 base w H) (kk:IntKind) (x y:Int) (c:BoundsCode) :
  ∃ s w',(boundsPanic (α:=Value) kk x y c).run P w = .halt (.panic (.iface P.rt.boundsError (.agg #[vV (IntKind.i64.wrap x),vV y,.bool s,.int .u8 (c.toNat:Int)]))) w'∧Sep w0 base w' H:=by
 unfold boundsPanic
 by_cases hc:(kk != .u64 && decide (0≤x) && decide (x≤31))=true
 ·refine ⟨(Question.extern "runtime.boundsError.signed" 2).cut (w.tape w.drawn (.extern "runtime.boundsError.signed" 2)) == 1,w.drew,?_,S.drawn _⟩
  rw [zDi hc]
  have hch:(choose (.extern "runtime.boundsError.signed" 2)).run P w = .ok ((Question.extern "runtime.boundsError.signed" 2).cut (w.tape w.drawn (.extern "runtime.boundsError.signed" 2))) w.drew:=rfl
  simp only [Sem.run_bind,Sem.run_map,hch,Result.andThen_ok,runtimePanic,run_program,run_goPanic]
 ·refine ⟨kk != .u64,w,?_,S⟩
  simp_all [zDb,Sem.run_bind,Sem.run_pure,Result.andThen_ok,runtimePanic,run_program,run_goPanic]
theorem zjC {i:Int}(hu:X.P.underlying t=some (.slice e)) (hg:Wd X ops E g) (hx:ev E x=some (.slice A n C)) (hi:ev E ix=some (.int kk i)) (hout:i < 0∨(n:Int)≤i)
  (hk:∀ (m:Int) (s:Bool),Un X (.panicking [{ v:=.iface X.P.rt.boundsError (.agg #[vV (IntKind.i64.wrap i),vV m,.bool s,.int .u8 0]),recovered:=false }]) E ds H) :
  AtL X ops (⟨dst,.indexAddr t x ix,ty,pos,after,g⟩::os) k E ds H :=
 zkK hg Z fun ρ w hρ S => by
  cases A with
  | none =>
   obtain ⟨s,w',hr,S'⟩:=zhU (P:=X.P) S kk i 0 .index
   refine ⟨_,w',H,?_,S',hk 0 s⟩
   simp [execOp,hρ _ _ hx,hρ _ _ hi,Instr.indexAt,asIntOf,run_underlying hu,hr]
   rfl
  | some a =>
   obtain ⟨s,w',hr,S'⟩:=zhU (P:=X.P) S kk i n .index
   refine ⟨_,w',H,?_,S',hk n s⟩
   have hno:¬ (0≤i∧i < (n:Int)):=by omega
   simp only [execOp,hρ _ _ hx,hρ _ _ hi,Instr.indexAt,asIntOf,Sem.run_bind,Sem.run_pure,Result.andThen_ok,run_underlying hu]
   rw [zDb hno]
   simp only [zFc,zDy,zDU,hr,Result.andThen_halt]
   rfl
theorem zgd {v:Value}(hg:Wd X ops E g) (hx:ev E x=some (.iface t v)) (hk:Un X (.panicking [{ v:=.iface t v,recovered:=false }]) E ds H):AtL X ops (⟨dst,.panic x,ty,pos,after,g⟩::os) k E ds H :=
 zkK hg rfl fun ρ w hρ S => ⟨_,w,H,by simp_all [execOp,Instr.panic],S,hk⟩
theorem zfU {c:Array Value}{args:List Value}(hr:X.c.round=none) (hg:Wd X ops E g) (hd:zcq X.n dst=true) (hv:ev E x=some (.func (.func f) u c)) (hx:evs E xs.toList=some args)
  (hk:AtL X ops os k (putE E dst undef) ({ target:=.fn (.func f) c,args:=u++args.toArray }::ds) H):AtL X ops (⟨dst,.defer ⟨.value x,xs,ts⟩,ty,pos,after,g⟩::os) k E ds H:=by
 intro is hi a w ha S
 cases is with
 | nil => simp at hi
 | cons i is =>
  simp only [zDo,zD2] at hi
  obtain ⟨ho,hi⟩:=hi
  refine .step (zjc ho (hg.wanted (o:=⟨dst,.defer ⟨.value x,xs,ts⟩,ty,pos,after,g⟩) ha) (.inr hr) ?_) (hk is hi _ _ (ha.put hd undef) S)
  simp [execOp,resolve,Deferred.ofValue,ha.ev hv,zcp (fun x v h => ha.ev h) hx]
theorem zlD {xT aT:TypeId}{ok:Bool}{v u:Value}(hx:ev E x=some v) (hr:∀ w,(Instr.typeAssert v xT aT ok).run X.P w = .ok u w):Does X E H (.typeAssert x xT aT ok) (Is u H) :=
 zan rfl fun dst ty pos after g ρ w hρ => by simp_all [execOp]
theorem zdf {xT aT:TypeId}{ok:Bool}{v u:Value}(hg:Wd X ops E g) (hd:Nat.blt d X.n=true) (hx:ev E x=some v) (hr:∀ w,(Instr.typeAssert v xT aT ok).run X.P w = .ok u w) (hk:AtL X ops os k ((d,u)::E) ds H) :
  AtL X ops (⟨some d,.typeAssert x xT aT ok,ty,pos,after,g⟩::os) k E ds H:=zai (zlD hx hr) hg hd hk
end panics
def zlB:FrameMode→FrameMode
 | .panicking ({ recovered:=true,.. }::older) => match older.dropWhile (!·.goexit) with
  | [] => .returning
  | rest => .panicking rest
 | m => m
def DCalls (P:Program) (f:FuncId) (args:List Value) (w0:World) (base:Nat) (H:List Seg) (m:FrameMode) (R:FrameMode→List Seg→Prop):Prop :=
 ∀ (fr:Frame) (cs:List Frame) (w:World),fr.mode=m→Sep w0 base w H→∃ m' H' w',R m' H'∧Sep w0 base w' H'∧Steps P (lone (Frame.enter P f args.toArray .deferred) (fr::cs) w) (lone { fr with mode:=m' } cs w')
def zCT (fr:Frame) (cs:List Frame) (w0:World) (base:Nat) (R:FrameMode→List Seg→Prop) (mch:Machine):Prop :=
 ∃ m' H' w',mch=lone { fr with mode:=m' } cs w'∧R m' H'∧Sep w0 base w' H'
theorem DCalls.of_walk {c:Code}{args:List Value}{m:FrameMode}{R:FrameMode→List Seg→Prop}
  (hf:P.funcs[f]? = some fn) (hb:fn.body=some c) (hn:fn.ntmps=n) (hle:Nat.ble args.length n=true)
  (h:∀ fr cs,At ⟨P,⟨f,.deferred,none⟩,n,{ fr with mode:=m }::cs,zCT fr cs w0 base R,w0,base⟩ [.code c] (zeo args 0) [] H):DCalls P f args w0 base H m R:=by
 intro fr cs w hm S
 subst hm
 have hle:=zDT hle
 have hA:Agree n (args.toArray++Array.replicate (n - args.length) undef) (zeo args 0):=by
  refine ⟨by grind,fun t v hv => ?_⟩
  obtain ⟨_,h2⟩:=zgr hv
  rw [zFp] at h2
  have hlt:=(zDv.1 h2).1
  simp_all [zDu,zEx]
 obtain ⟨m',hs,m1,H',w',rfl,h3,h4⟩:=h fr cs _ w hA S
 refine ⟨m1,H',w',h3,h4,?_⟩
 have henter:Frame.enter P f args.toArray .deferred=Ctx.fr ⟨f,.deferred,none⟩ (args.toArray++Array.replicate (n - args.length) undef) [] [.code c]:=by
  grind [Frame.enter,Ctx.fr]
 simp_all
theorem zed {fr:Frame}{cs:List Frame}{m:FrameMode}{R:FrameMode→List Seg→Prop} 
  (hf:P.funcs[f]? = some fn) (hrs:fn.results.toList=rs) (hv:ResP P w0 base H E rs vs) (hR:R (zlB m) H):Un ⟨P,⟨f,.deferred,none⟩,n,{ fr with mode:=m }::cs,zCT fr cs w0 base R,w0,base⟩ .returning E [] H:=by
 intro a w k ha S
 subst hrs
 have hres:=zgk (P:=P) ha S hv
 refine .step (m':=lone { fr with mode:=zlB m } cs w) (step_lone_go ?_) ⟨_,.refl P _,_,H,w,Z,hR,S⟩
 simp only [Ctx.fr,stepG,unwind,hf,doReturn]
 simp only [Sem.runT_eq,hres,GStep.bare_after]
 cases m with
 | run => rfl
 | returning => rfl
 | panicking ch =>
  cases ch with
  | nil => rfl
  | cons x older =>
   obtain ⟨v,r,gx⟩:=x
   cases r with
   | false => rfl
   | true =>
    simp only [zlB]
    split <;> simp_all
theorem zbk {m:FrameMode}{args c:Array Value}{R:FrameMode→List Seg→Prop}(hb:Body X.P f) (hm:(match m with | .run => false | _ => true)=true) (ha' : args.toList++c.toList=args') (hc:DCalls X.P f args' X.w0 X.base H m R)
  (hk:∀ m' H',R m' H'→Un X m' E ds H'):Un X m E ({ target:=.fn (.func f) c,args }::ds) H:=by
 intro a w k ha S
 subst ha'
 obtain ⟨m',H',w',hR,S',hs⟩:=hc { X.c.fr a ds k with mode:=m } X.cs w rfl S
 have e:args++c=(args.toList++c.toList).toArray:=by
  grind
 refine .step (m':=lone (Frame.enter X.P f (args.toList++c.toList).toArray .deferred) ({ X.c.fr a ds k with mode:=m }::X.cs) w) (step_lone_go ?_) (.steps hs (hk m' H' hR a w' k ha S'))
 have hinv:(invoke (.fn (.func f) c) args).run X.P w = .ok (.enter f (args++c)) w:=by simp [invoke,zcX hb]
 rw [← e]
 cases m with
 | run => cases hm
 | returning =>
  simp_all [stepG,unwind,Ctx.fr,callDeferred,zFc,zDy,zDU,Sem.runT_eq,GStep.bare_after]
 | panicking ch =>
  simp_all [stepG,unwind,Ctx.fr,callDeferred,zEX,zDy,zDU,Sem.runT_eq,GStep.bare_after]
section recover
variable {P:Program}{f:FuncId}{n:Nat}{fr:Frame}{cs:List Frame}{G:Machine→Prop}{w0:World}{base:Nat}{k:List Item}{E:Env}{ds:List Deferred}{H:List Seg}{ops:Array Oper}{os:List Oper}
  {dst:Option Tmp}{ty:TypeId}{pos:String}{after:Array Edge}{ts:Array TypeId}
theorem zdW (hd:zcq n dst=true) (hk:AtL ⟨P,⟨f,.deferred,none⟩,n,{ fr with mode:=.returning }::cs,G,w0,base⟩ ops os k (putE E dst .nilIface) ds H) :
  AtL ⟨P,⟨f,.deferred,none⟩,n,{ fr with mode:=.returning }::cs,G,w0,base⟩ ops (⟨dst,.call ⟨.builtin .recover,#[],ts⟩,ty,pos,after,none⟩::os) k E ds H:=by
 intro is hi a w ha S
 cases is with
 | nil => grind
 | cons i is =>
  simp only [zDo,zD2] at hi
  obtain ⟨ho,hi⟩:=hi
  have hr:(execOp (evA a) ⟨dst,.call ⟨.builtin .recover,#[],ts⟩,ty,pos,after,none⟩).run P w = .ok .recover w:=by simp [execOp,resolve,invoke,builtin]
  refine .step (step_lone_go ?_) (hk is hi _ _ (ha.put hd .nilIface) S)
  rw [zcn ho (by simp [Region.wanted]) (.inl rfl),← zbq ho]
  simp [stepG.apply,hr,Ctx.fr,tryRecover]
theorem zfS {v:Value}{older:List PanicEntry}(hd:zcq n dst=true) (hk:AtL ⟨P,⟨f,.deferred,none⟩,n,{ fr with mode:=.panicking ({ v,recovered:=true }::older) }::cs,G,w0,base⟩ ops os k (putE E dst v) ds H) :
  AtL ⟨P,⟨f,.deferred,none⟩,n,{ fr with mode:=.panicking ({ v,recovered:=false }::older) }::cs,G,w0,base⟩ ops (⟨dst,.call ⟨.builtin .recover,#[],ts⟩,ty,pos,after,none⟩::os) k E ds H:=by
 intro is hi a w ha S
 cases is with
 | nil => grind
 | cons i is =>
  simp only [zDo,zD2] at hi
  obtain ⟨ho,hi⟩:=hi
  have hr:(execOp (evA a) ⟨dst,.call ⟨.builtin .recover,#[],ts⟩,ty,pos,after,none⟩).run P w = .ok .recover w:=by simp [execOp,resolve,invoke,builtin]
  refine .step (step_lone_go ?_) (hk is hi _ _ (ha.put hd v) S)
  rw [zcn ho (by simp [Region.wanted]) (.inl rfl),← zbq ho]
  simp [stepG.apply,hr,Ctx.fr,tryRecover]
end recover
theorem zme (h:H.Perm H'):H.flatten.Perm H'.flatten:=by
 induction h with
 | nil => simp_all
 | cons s _ ih => exact List.Perm.append_left s ih
 | swap a b l =>
  grind [List.flatten_cons,List.append_assoc,List.Perm.append_right,List.perm_append_comm]
 | trans _ _ ih1 ih2 => exact ih1.trans ih2
theorem Sep.perm (S:Sep w0 base w H) (h:H.Perm H'):Sep w0 base w H' :=
 ⟨S.below,S.le,fun p hp => S.mem p ((zme h).mem_iff.2 hp),((zme h).map _).nodup_iff.1 S.nodup⟩
theorem zsi (a:α) (X T:List α):(a::(X++T)).Perm (X++(a::T)):=List.perm_middle.symm
theorem perm2 (a b:α) (X T:List α):(a::b::(X++T)).Perm (X++(a::b::T)):=((zsi b X T).cons a).trans (zsi a X (b::T))
theorem zBI (a b c:α) (X T:List α):(a::b::c::(X++T)).Perm (X++(a::b::c::T)):=((perm2 b c X T).cons a).trans (zsi a X (b::c::T))
def YCalls (P:Program) (l:Nat) (args:List Value) (w0:World) (base:Nat) (H:List Seg) (R:Value→List Seg→Prop):Prop :=
 ∀ w,Sep w0 base w H→∃ f tmps assign body,(Instr.yield l args.toArray).run P w = .ok (.round l f tmps assign body) w ∧
  ∀ c cs,∃ v H' w',R v H'∧Sep w0 base w' H'∧Steps P (lone (Frame.round l f tmps assign body .normal) (c::cs) w) (lone (Frame.finish c v) cs w')
theorem YCalls.mono {args:List Value}(h:YCalls P l args w0 base H R) (hr:∀ v H',R v H'→R' v H'):YCalls P l args w0 base H R':=by
 intro w S
 obtain ⟨f,tmps,assign,body,h1,h2⟩:=h w S
 refine ⟨f,tmps,assign,body,h1,fun c cs => ?_⟩
 obtain ⟨v,H',w',hR,S',hs⟩:=h2 c cs
 grind
def zq2 (c:Frame) (cs:List Frame) (w0:World) (base:Nat) (R:Value→List Seg→Prop) (m:Machine):Prop :=
 ∃ v H' w',m=lone (Frame.finish c v) cs w'∧R v H'∧Sep w0 base w' H'
def zsb (E:Env):List Tmp→List Value→Env
 | t::ts,v::vs => zsb ((t,v)::E) ts vs
 | _,_ => E
theorem zbY (h:w.heap[l]? = some (.loop L)):(Instr.getLoop l).run P w = .ok L w:=by
 simp [Instr.getLoop,getObj,Sem.run,h]
def zpl:Obj→Bool
 | .cells _ _ _ => true
 | _ => false
theorem zbP {o:Obj}(h:w.heap[l]? = some o) (hc:zpl o=false):(setObj l o').run P w = .ok () { w with heap:=w.heap.setIfInBounds l o' }:=by
 cases o <;> first | (cases hc; done) | simp [setObj,Sem.run,h]
theorem Sep.setObj (S:Sep w0 base w H) {o:Obj}(hi:H[i]? = some s) (hj:s[j]? = some (b,o)) (o' : Obj) :
  Sep w0 base { w with heap:=w.heap.setIfInBounds b o' } (H.set i (s.set j (b,o'))):=by
 have hb:=(S.at_ hi hj).1
 have hlt:=(zDW.1 hb).1
 refine S.write hi hj o' Z Z Z kY ?_ (fun k hk => ?_)
 ·grind
 grind
theorem YCalls.of_walk {args:List Value}{ps:List Tmp}
  (hi:H[i]? = some s) (hj:s[j]? = some (l,.loop L)) (hA:Agree n L.tmps E) (hp:L.params.toList=ps) (hlen:args.length=ps.length) (hps:ps.all (fun t => Nat.blt t n)=true)
  (h:∀ c cs,At ⟨P,⟨L.fn,.normal,some l⟩,n,c::cs,zq2 c cs w0 base R,w0,base⟩ [.code L.assign,.beginRound,.code L.body] (zsb E ps args) [] H):YCalls P l args w0 base H R:=by
 intro w S
 have hb:=(S.at_ hi hj).1
 have hsz:args.toArray.size=L.params.size:=by
  grind
 refine ⟨L.fn,(L.params.zip args.toArray).foldl (fun tmps (t,a) => tmps.setIfInBounds t a) L.tmps,L.assign,L.body,?_,fun c cs => ?_⟩
 ·simp_all [Instr.yield,Sem.run_bind,zbY,Result.andThen_ok,zDb]
 ·have key:∀ (ps:List Tmp) (vs:List Value) (a:Array Value) (E:Env),ps.all (fun t => Nat.blt t n)=true→Agree n a E→Agree n ((ps.zip vs).foldl (fun tmps p => tmps.setIfInBounds p.1 p.2) a) (zsb E ps vs):=by
   intro ps
   induction ps with
   | nil => intro vs a E _ ha; exact ha
   | cons t ts ih =>
    intro vs a E hps ha
    cases vs with
    | nil => exact ha
    | cons v vs =>
     simp only [zFj,zC9] at hps
     exact ih vs _ _ hps.2 (ha.put (d:=some t) hps.1 v)
  have hA' : Agree n ((L.params.zip args.toArray).foldl (fun tmps (t,a) => tmps.setIfInBounds t a) L.tmps) (zsb E ps args):=by
   grind [Array.toList_zip]
  obtain ⟨m',hs,v,H',w',rfl,hR,S'⟩:=h c cs _ w hA' S
  exact ⟨v,H',w',hR,S',hs⟩
section
variable {X:Pt}{k:List Item}{E:Env}{ds:List Deferred}{H:List Seg}{ops:Array Oper}{os:List Oper}
theorem AtL.perm (hp:H.Perm H') (h:AtL X ops os k E ds H'):AtL X ops os k E ds H:=fun is hi a w ha S => h is hi a w ha (S.perm hp)
theorem At.perm (hp:H.Perm H') (h:At X k E ds H'):At X k E ds H:=fun a w ha S => h a w ha (S.perm hp)
theorem zpT {args:List Value}(hv:ev E x=some (.func (.yield l) #[] #[])) (hx:evs E xs.toList=some args) (hc:YCalls X.P l args X.w0 X.base H R):Does X E H (.call ⟨.value x,xs,ts⟩) R:=by
 intro dst ty pos after g ops i is k ds a w ho hw ha S
 obtain ⟨f,tmps,assign,body,hy,hr⟩:=hc w S
 obtain ⟨v,H',w',hR,S',hs⟩:=hr (X.c.fr a ds (.inRegion ops (i::is)::k)) X.cs
 refine ⟨v,H',w',hR,S',.head (m₁:=lone (Frame.round l f tmps assign body .normal) (X.c.fr a ds (.inRegion ops (i::is)::k)::X.cs) w) (step_lone_go ?_) ?_⟩
 ·rw [zcn ho hw (.inl rfl)]
  have hrun:(execOp (evA a) ⟨dst,.call ⟨.value x,xs,ts⟩,ty,pos,after,g⟩).run X.P w = .ok (.round l f tmps assign body) w:=by
   grind [execOp,resolve,Deferred.ofValue,zcp,invoke]
  simp [stepG.apply,hrun,Ctx.fr]
 simp_all [zbq]
theorem zfR {dst:Option Tmp}{pos:String}{args:List Value}(hg:Wd X ops E g) (hd:zcq X.n dst=true) (hv:ev E x=some (.func (.yield l) #[] #[])) (hx:evs E xs.toList=some args) (hc:YCalls X.P l args X.w0 X.base H R)
  (hk:∀ v H',R v H'→AtL X ops os k (putE E dst v) ds H'):AtL X ops (⟨dst,.call ⟨.value x,xs,ts⟩,ty,pos,after,g⟩::os) k E ds H:=AtL.of (zpT hv hx hc) hg hd hk
theorem zlL (hr:X.c.round=some l) (hi:H[i]? = some s) (hj:s[j]? = some (l,.loop L)) (hs:L.state = .ready) (hH:H.set i (s.set j (l,.loop { L with state:=.busy }))=H') (h:At X k E ds H'):At X (.beginRound::k) E ds H:=by
 intro a w ha S
 have hb:=(S.at_ hi hj).1
 have hrun:(Instr.beginRound l).run X.P w = .ok () { w with heap:=w.heap.setIfInBounds l (.loop { L with state:=.busy }) }:=by
  unfold Instr.beginRound
  simp only [Sem.run_bind,zbY hb,Result.andThen_ok,zbP hb rfl,hs,Sem.run_pure]
 refine .step (m':=lone (X.c.fr a ds k) X.cs { w with heap:=w.heap.setIfInBounds l (.loop { L with state:=.busy }) }) (step_lone_go ?_) (h a _ ha (hH ▸ S.setObj hi hj _))
 have hr2:(do (Instr.beginRound l); pure .skip:Sem Next).run X.P w = .ok .skip { w with heap:=w.heap.setIfInBounds l (.loop { L with state:=.busy }) }:=by
  simp_all
 simp_all [stepG,stepG.exec,Ctx.fr,Option.elim_some,stepG.apply,Sem.runT_eq,zEm,GStep.bare_after,Frame.finish]
section ends
variable {P:Program}{f:FuncId}{n l i j:Nat}{c:Frame}{cs:List Frame}{w0:World}{base:Nat}{R:Value→List Seg→Prop}{s:Seg}{L:Loop}{H' : List Seg}
theorem zfH (hb:w.heap[l]? = some (.loop L)) (jump:Option Code):(Instr.endRound l jump).run P w = .ok (.bool jump.isNone) { w with heap:=w.heap.setIfInBounds l (.loop { L with state:=if jump.isNone then .ready else .done,pending:=jump }) }:=by
 unfold Instr.endRound
 simp only [Sem.run_bind,zbY hb,Result.andThen_ok,zbP hb rfl,Sem.run_pure]
theorem zou (hi:H[i]? = some s) (hj:s[j]? = some (l,.loop L)) (hH:H.set i (s.set j (l,.loop { L with state:=.ready,pending:=none }))=H') (hR:R (.bool true) H') :
  At ⟨P,⟨f,.normal,some l⟩,n,c::cs,zq2 c cs w0 base R,w0,base⟩ [] E ds H:=by
 intro a w ha S
 have hb:=(S.at_ hi hj).1
 have hrun:=zfH (P:=P) hb none
 have S':=hH ▸ S.setObj hi hj (.loop { L with state:=.ready,pending:=none })
 refine .step (m':=lone (c.finish (.bool true)) cs { w with heap:=w.heap.setIfInBounds l (.loop { L with state:=.ready,pending:=none }) }) (step_lone_go ?_) ⟨_,.refl P _,_,H',_,Z,hR,S'⟩
 simp_all [stepG,stepG.exec,Ctx.fr,Sem.runT_eq,GStep.bare_after,doReturn]
theorem zot (hi:H[i]? = some s) (hj:s[j]? = some (l,.loop L)) (hH:H.set i (s.set j (l,.loop { L with state:=.done,pending:=some .ret }))=H') (hR:R (.bool false) H') :
  At ⟨P,⟨f,.normal,some l⟩,n,c::cs,zq2 c cs w0 base R,w0,base⟩ (.code .ret::k) E ds H:=by
 intro a w ha S
 have hb:=(S.at_ hi hj).1
 have hrun:=zfH (P:=P) hb (some .ret)
 have S':=hH ▸ S.setObj hi hj (.loop { L with state:=.done,pending:=some .ret })
 refine .step (m':=lone (c.finish (.bool false)) cs { w with heap:=w.heap.setIfInBounds l (.loop { L with state:=.done,pending:=some .ret }) }) (step_lone_go ?_) ⟨_,.refl P _,_,H',_,Z,hR,S'⟩
 simp_all [stepG,stepG.exec,Ctx.fr,Sem.runT_eq,GStep.bare_after,doReturn]
end ends
theorem znk {f:Operand}{assign:Code}{gf:FuncId}{c:Array Value}{R:Array Value→Nat→Nat→Value→List Seg→Prop}(hr:X.c.round=none) (hb:Body X.P gf) (hf:ev E f=some (.func (.func gf) u c))
  (hc:∀ (a:Array Value) (l r:Nat),Agree X.n a E→SCalls X.P gf (u.toList++[.func (.yield l) #[] #[]]++c.toList) X.w0 X.base ([(l,.loop ⟨.ready,none,X.c.fn,a,params,assign,body,r⟩)]::[(r,.deferred (some []))]::H) (R a l r))
  (hk:∀ a l r v H1,Agree X.n a E→R a l r v H1→∃ i j s L,∃ H' : List Seg,H1[i]? = some s∧s[j]? = some (l,.loop L)∧L.state≠.busy∧H1.set i (s.set j (l,.loop { L with state:=.exhausted }))=H' ∧
   At X ((L.pending.map Item.code).toList++k) E ({ target:=.collected r,args:=#[] }::ds) H'):At X (.code (.rangeFunc f params assign body)::k) E ds H:=by
 intro a w ha S
 have S1:=(S.alloc (.deferred (some []))).alloc (.loop ⟨.ready,none,X.c.fn,a,params,assign,body,w.heap.size⟩)
 have hsz:(w.alloc (.deferred (some []))).heap.size=w.heap.size + 1:=by simp
 have henter:(Instr.enterLoop X.c.fn a params assign body none).run X.P w = .ok (w.heap.size + 1,[{ target:=.collected w.heap.size,args:=#[] }]) ((w.alloc (.deferred (some []))).alloc (.loop ⟨.ready,none,X.c.fn,a,params,assign,body,w.heap.size⟩)):=by
  unfold Instr.enterLoop
  simp only [Sem.run_bind,run_newObj,Result.andThen_ok,Sem.run_pure]
  show Result.ok ((w.heap.push _).size,_) _=_
  rw [Array.size_push]
  rfl
 rw [hsz] at S1
 have hcall:=hc a (w.heap.size + 1) w.heap.size ha _ S1
 obtain ⟨e,w',fr,⟨v,H1,rfl,hR,S'⟩,hcomes,_,hleave⟩:=hcall (X.c.fr a ({ target:=.collected w.heap.size,args:=#[] }::ds) (.inRangeFunc (w.heap.size + 1)::k)::X.cs)
 obtain ⟨i,j,s,L,H',hi,hj,hns,hH,hat⟩:=hk a _ _ v H1 ha hR
 have hbk:=(S'.at_ hi hj).1
 obtain ⟨Y,hY⟩:∃ Y:List Value,Y=[Value.func (Fn.yield (w.heap.size + 1)) #[] #[]]:=⟨_,rfl⟩
 have e1:(u++Y.toArray++c)=(u.toList++Y++c.toList).toArray:=by
  grind
 rw [← hY] at hcomes
 refine .step (m':=lone (Frame.enter X.P gf (u.toList++Y++c.toList).toArray .normal) (X.c.fr a ({ target:=.collected w.heap.size,args:=#[] }::ds) (.inRangeFunc (w.heap.size + 1)::k)::X.cs) ((w.alloc (.deferred (some []))).alloc (.loop ⟨.ready,none,X.c.fn,a,params,assign,body,w.heap.size⟩))) (step_lone_go ?_) (.steps hcomes (.step (step_leave_returned hleave) ?_))
 ·have hfe:=zio (c:=X.c) (a:=a) (ds:={ target:=.collected w.heap.size,args:=#[] }::ds) (k:=.inRangeFunc (w.heap.size + 1)::k)
  have hfv:=ha.ev hf
  simp only [Ctx.fr] at hfe
  rw [hr] at hfe
  simp only [stepG,stepG.exec,Ctx.fr,hr,Sem.runT_eq,henter,GStep.bare_after,zEB,hfe]
  have hrun:∀ (y:Value) (w:World),(do let d ← resolve (evA a) { callee:=.value f,args:=#[.const y],argTypes:=#[] } 0; invoke d.target d.args:Sem Next).run X.P w = .ok (.enter gf (u++#[y]++c)) w:=by
   intro y w
   have hcy:evA a (.const y)=y:=rfl
   grind [resolve,Deferred.ofValue,invoke,zcX]
  simp only [stepG.apply,Sem.runT_eq,zEm,hrun,GStep.bare_after]
  rw [← e1,hY]
  rfl
 ·have hend:(Instr.endLoop (w.heap.size + 1)).run X.P w' = .ok L.pending { w' with heap:=w'.heap.setIfInBounds (w.heap.size + 1) (.loop { L with state:=.exhausted }) }:=by
   have hnb:(L.state == LoopState.busy)=false:=by grind
   unfold Instr.endLoop
   simp only [Sem.run_bind,zbY hbk,Result.andThen_ok,hnb,zDy,zDU,zbP hbk rfl,Sem.run_pure]
  refine .step (m':=lone (X.c.fr a ({ target:=.collected w.heap.size,args:=#[] }::ds) ((L.pending.map Item.code).toList++k)) X.cs { w' with heap:=w'.heap.setIfInBounds (w.heap.size + 1) (.loop { L with state:=.exhausted }) }) (step_lone_go ?_) (hat a _ ha (hH ▸ S'.setObj hi hj _))
  have hfin:(X.c.fr a ({ target:=.collected w.heap.size,args:=#[] }::ds) (.inRangeFunc (w.heap.size + 1)::k)).finish v=X.c.fr a ({ target:=.collected w.heap.size,args:=#[] }::ds) (.endRangeFunc (w.heap.size + 1)::k):=rfl
  simp_all [stepG,stepG.exec,Ctx.fr,Sem.runT_eq,GStep.bare_after]
theorem zdn {m:FrameMode}{ds0:List Deferred}{args:Array Value}(hm:(match m with | .run => false | _ => true)=true) (hi:H[i]? = some s) (hj:s[j]? = some (r,.deferred (some ds0))) (hH:H.set i (s.set j (r,.deferred none))=H') (h:Un X m E (ds0++ds) H') :
  Un X m E ({ target:=.collected r,args }::ds) H:=by
 intro a w k ha S
 have hb:=(S.at_ hi hj).1
 have hrun:(Instr.takeDeferred r).run X.P w = .ok ds0 { w with heap:=w.heap.setIfInBounds r (.deferred none) }:=by
  unfold Instr.takeDeferred
  have h1:(getObj r).run X.P w = .ok (.deferred (some ds0)) w:=by grind [getObj,Sem.run]
  simp only [Sem.run_bind,h1,Result.andThen_ok,zbP hb rfl,Sem.run_pure]
 refine .step (m':=lone { X.c.fr a (ds0++ds) k with mode:=m } X.cs { w with heap:=w.heap.setIfInBounds r (.deferred none) }) (step_lone_go ?_) (h a _ k ha (hH ▸ S.setObj hi hj _))
 cases m with
 | run => cases hm
 | returning => simp_all [stepG,unwind,Ctx.fr,Sem.runT_eq,GStep.bare_after]
 | panicking ch => simp_all [stepG,unwind,Ctx.fr,Sem.runT_eq,GStep.bare_after]
end
theorem zgf (a b:Int) (c:Nat) (hb:b=(c:Int)) (hc:c≤63) (d:Int) (hd:(2:Int) ^ c=d):a.fdiv (2 ^ (min b.toNat IntKind.i64.bits))=a / d:=by
 subst hb; subst hd
 have h1:min ((c:Int)).toNat IntKind.i64.bits=c:=by
  show min ((c:Int)).toNat 64=c
  omega
 rw [h1,Int.fdiv_eq_ediv_of_nonneg]
 grind
theorem ziK (a b:Int) (c:Nat) (hb:b=(c:Int)) (hc:c≤63) (d:Int) (hd:(2:Int) ^ c=d) (h1:-9223372036854775808≤a * d) (h2:a * d≤9223372036854775807):IntKind.i64.wrap (a * 2 ^ (min b.toNat IntKind.i64.bits))=a * d:=by
 subst hb; subst hd
 have e:min ((c:Int)).toNat IntKind.i64.bits=c:=by
  show min ((c:Int)).toNat 64=c
  omega
 grind [w64]
theorem zx1 {b:Int}(ha:0≤a) (hb:0 < b) (hm:a≤9223372036854775807):IntKind.i64.wrap (a.tdiv b)=a / b:=by
 rw [Int.tdiv_eq_ediv_of_nonneg ha]
 have h1:=Int.ediv_nonneg ha (Int.le_of_lt hb)
 have h2:=Int.ediv_le_self b ha
 grind [w64]
theorem zdN (a:Int):(UInt8.ofInt a).toNat=(a % 256).toNat:=by
 have h1:=zE6 a (show (256:Int)≠0 by decide)
 have h2:=zE7 a (show (0:Int) < 256 by decide)
 show (UInt8.ofNat (a % 2 ^ 8).toNat).toNat=_
 simp_all
theorem zfm (a:Int):IntKind.u8.wrap a=((UInt8.ofInt a).toNat:Int):=by
 rw [zdN]
 have h1:=zE6 a (show (256:Int)≠0 by decide)
 show a % (2 ^ 8:Int)=_
 omega
section
variable {X:Pt}{k:List Item}{E:Env}{ds:List Deferred}{H:List Seg}{ops:Array Oper}{os:List Oper}
  {d:Nat}{ty:TypeId}{pos:String}{after:Array Edge}{g:Option (Nat×Bool)}
theorem zcj {b:Code}(h:At X (.code b::.inLoop b::k) E ds H):At X (.code (.loop b)::k) E ds H:=fun a w ha S => .step znV (h a w ha S)
theorem zxR {b:Code}(h:At X (.code b::.inLoop b::k) E ds H):At X (.inLoop b::k) E ds H:=fun a w ha S => .step zjd (h a w ha S)
theorem zuP {t e o:Nat}{i:Int}(j:Nat) (hu:X.P.underlying t=some (.slice e)) (hs:za5 X.P e sz=true) (hx:ev E x=some (.slice (some ⟨b,o,none⟩) n C)) (hi:ev E ix=some (.int kk i)) (hij:i=(j:Int)) (hj:Nat.blt j n=true) (hr:o + j * sz=r) :
  Does X E H (.indexAddr t x ix) (Is (.pointer (some ⟨b,r,none⟩)) H):=by
 have:=zfQ (X:=X) (E:=E) (H:=H) j hu hs hx hi hij (zdr hj) kY
 grind [zdt,zaO]
theorem zeM {t e o:Nat}{i:Int}(j:Nat) (hu:X.P.underlying t=some (.slice e)) (hs:za5 X.P e sz=true) (hg:Wd X ops E g) (hd:Nat.blt d X.n=true) (hx:ev E x=some (.slice (some ⟨b,o,none⟩) n C)) (hi:ev E ix=some (.int kk i)) (hij:i=(j:Int)) (hj:Nat.blt j n=true) (hr:o + j * sz=r)
  (hk:AtL X ops os k ((d,.pointer (some ⟨b,r,none⟩))::E) ds H):AtL X ops (⟨some d,.indexAddr t x ix,ty,pos,after,g⟩::os) k E ds H:=zai (zuP j hu hs hx hi hij hj hr) hg hd hk
theorem zn6 {T:Ty α}(S:Sep w0 base w H) {z:α}(hT:ElemOk P t e T z by_) (h2:P.underlying t2=some (.int .i64))
  {l:List α}(hi:H[i]? = some s) (ho:Own T e A C l s) (hsz0:T.sz≠0) (hm:0 < m) (hgrow:C < l.length + m) (hb:(l.length + m) * by_≤140737488355328) :
  ∃ A' C' s' w',(Builtin.append_ #[t,t2] ty #[.slice A l.length C,vV (m:Int)]).run P w = .ok (.slice A' (l++List.replicate m z).length C') w'∧Own T e A' C' (l++List.replicate m z) s'∧Sep w0 base w' (H.set i s'):=by
 obtain ⟨io,hio,hsz,hby,hz⟩:=hT.info
 have hpos:=hT.pos
 have hlen:l.length + m≤140737488355328:=zEv (zFt _ hpos) hb
 have hrd:Rd T w0 base H A C l:=ho.rd hi
 have hneed:C < l.length + m:=hgrow
 have hfits:=growslice_fits (bytes:=by_) hneed hb
 have hge:=grownCap_ge w (l.length + m) C e
 have hcm:grownCap w (l.length + m) C e≤maxLen:=grownCap_le_maxLen w (l.length + m) C e (by grind [maxLen])
 have Sd:Sep w0 base w.drew H:=S.drawn _
 have h3:=hrd.first (P:=P) Sd l.length (zDe _)
 rw [zF5] at h3
 refine ⟨some ⟨w.heap.size,0,none⟩,grownCap w (l.length + m) C e,[(w.heap.size,.cells (T.cells ([]++(l++List.replicate m z)++List.replicate (grownCap w (l.length + m) C e - (l.length + m)) z++[])).toArray e (0,0))],w.drew.alloc (.cells (T.cells ([]++(l++List.replicate m z)++List.replicate (grownCap w (l.length + m) C e - (l.length + m)) z++[])).toArray e),?_,
  ⟨List.replicate (grownCap w (l.length + m) C e - (l.length + m)) z,by grind,.inr ⟨w.heap.size,[],[],(0,0),by simp,Z,zaY _,by grind [List.length_append,List.length_replicate,maxLen]⟩⟩,zpS (Sd.alloc _) hi⟩
 have hb48:¬ (281474976710656 < Builtin.nextslicecap (l.length + m) C * by_):=by omega
 have hmax:¬ ((9223372036854775807:Int) < (((l.length + m:Nat)):Int)):=by omega
 have ez:∀ q,Builtin.zeroCells (T.val z).cells q=(T.cells (List.replicate q z)).toArray:=fun q => by rw [zbW,zee]
 have ecells:(T.cells l).toArray++(T.cells (List.replicate m z)).toArray++(T.cells (List.replicate (grownCap w (l.length + m) C e - (l.length + m)) z)).toArray=(T.cells ([]++(l++List.replicate m z)++List.replicate (grownCap w (l.length + m) C e - (l.length + m)) z++[])).toArray:=by
  rw [zDG,zDO,zaX,zaX]
  grind
 have hch:(choose (.appendCap (l.length + m) C e)).run P w = .ok (grownCap w (l.length + m) C e) w.drew:=rfl
 have hw:IntKind.i64.wrap (m:Int)=m:=w64 kQ kQ
 have hneg:¬ ((m:Int) < 0):=by omega
 have hbig:¬ ((281474976710656:Int) < (m:Int) * (by_:Int)):=by
  grind
 have hasi:∀ w:World,(asInt (.int .i64 (m:Int))).run P w = .ok (m:Int) w:=fun w => by simp [asInt,asIntOf]
 have hroom:¬ (l.length + m≤C):=by omega
 have hn0:¬ (m * T.sz=0):=by
  grind [Nat.mul_eq_zero]
 have hmx:IntKind.i64.max=9223372036854775807:=by decide
 have hcond:¬ ((((l.length + m:Nat)):Int) > IntKind.i64.max):=by omega
 have h48:(2:Int) ^ 48=281474976710656:=by decide
 have h48n:(2:Nat) ^ 48=281474976710656:=by decide
 have hbig' : ¬ (((m:Int) * (by_:Int)) > 2 ^ 48):=by omega
 have hb48' : ¬ (Builtin.nextslicecap (l.length + m) C * by_ > 2 ^ 48):=by omega
 unfold Builtin.append_
 simp only [run_underlying hT.u,run_underlying h2,sizeOf,typeInfo,Sem.run_bind,Result.andThen_ok,Sem.run_pure,run_program,hio,hsz,zEn,zDX,zDz,zEm,hasi,hw,hneg,zDU,hby,hbig',zEJ,hroom,hcond,false_and,hb48',hch,run_askRoom,h3,zFz,zDy,hn0,zeroValue,hz,ez,newRow,run_newObj,ecells]
 simp only [zC6,zEe]
 rfl
theorem zjD {T:Ty α}{z:α}{l:List α}(i:Nat) (hT:ElemOk X.P t e T z by_) (h2:X.P.underlying t2=some (.int .i64)) (hi:H[i]? = some s) (ho:Own T e A C l s) (hsz0:T.sz≠0) (hm:0 < m) (hgrow:C < l.length + m) (hb:(l.length + m) * by_≤140737488355328) (hg:Wd X ops E g) (hd:Nat.blt d X.n=true)
  (hx:ev E x=some (.slice A l.length C)) (hy:ev E y=some (vV (m:Int)))
  (hk:∀ A' C' s',Own T e A' C' (l++List.replicate m z) s'→AtL X ops os k ((d,.slice A' (l++List.replicate m z).length C')::E) ds (H.set i s')):AtL X ops (⟨some d,.call ⟨.builtin .append,#[x,y],#[t,t2]⟩,ty,pos,after,g⟩::os) k E ds H :=
 AtL.of (R:=fun v H' => ∃ A' C' s',Own T e A' C' (l++List.replicate m z) s'∧v = .slice A' (l++List.replicate m z).length C'∧H' = H.set i s') (zaq Z (fun dst ty pos after g ρ w hρ S => by
  obtain ⟨A',C',s',w',hrun,ho',S'⟩:=zn6 (P:=X.P) S (ty:=ty) hT h2 hi ho hsz0 hm hgrow hb
  refine ⟨_,w',_,?_,S',A',C',s',ho',Z,Z⟩
  simp_all [execOp,resolve,invoke,builtin])) hg hd fun _ _ ⟨A',C',s',h',hv,hH⟩ => by subst hv; subst hH; exact hk A' C' s' h'
end
theorem SCalls.pick {args:List Value}(is:List Nat) (m:Nat) (hok:zc5 is m=true) (hH:zbj H is m=H') (h:SCalls P f args w0 base H' R):SCalls P f args w0 base H R :=
 fun w S => h w (hH ▸ S.pick is m hok)
theorem SCalls.perm {args:List Value}(hp:H.Perm H') (h:SCalls P f args w0 base H' R):SCalls P f args w0 base H R :=
 fun w S => h w (S.perm hp)
theorem YCalls.pick {args:List Value}(is:List Nat) (m:Nat) (hok:zc5 is m=true) (hH:zbj H is m=H') (h:YCalls P l args w0 base H' R):YCalls P l args w0 base H R :=
 fun w S => h w (hH ▸ S.pick is m hok)
theorem YCalls.perm {args:List Value}(hp:H.Perm H') (h:YCalls P l args w0 base H' R):YCalls P l args w0 base H R :=
 fun w S => h w (S.perm hp)
theorem SCalls.permR {args:List Value}(h:SCalls P f args w0 base H R) (hr:∀ v H1,R v H1→∃ H2,H1.Perm H2∧R' v H2):SCalls P f args w0 base H R' :=
 fun w S => (h w S).mono fun _ _ ⟨v,H1,he,hR,hS⟩ => let ⟨H2,hp,hR2⟩:=hr v H1 hR; ⟨v,H2,he,hR2,hS.perm hp⟩
theorem YCalls.permR {args:List Value}(h:YCalls P l args w0 base H R) (hr:∀ v H1,R v H1→∃ H2,H1.Perm H2∧R' v H2):YCalls P l args w0 base H R':=by
 intro w S
 obtain ⟨f,tmps,assign,body,h1,h2⟩:=h w S
 refine ⟨f,tmps,assign,body,h1,fun c cs => ?_⟩
 obtain ⟨v,H',w',hR,S',hs⟩:=h2 c cs
 obtain ⟨H2,hp,hR2⟩:=hr v H' hR
 exact ⟨v,H2,w',hR2,S'.perm hp,hs⟩
structure IsLoop (n:Nat) (f:FuncId) (E:Env) (params:Array Tmp) (assign body:Code) (L:Loop):Prop where
  fn:L.fn=f
  agree:Agree n L.tmps E
  params:L.params=params
  assign:L.assign=assign
  body:L.body=body
  state:L.state = .ready
  pending:L.pending=none
def zua (L:Loop):Loop:={ L with state:=.busy }
def znP (L:Loop) (c:Code):Loop:={ L with state:=.done,pending:=some c }
def overL (L:Loop):Loop:={ L with state:=.exhausted }
theorem zqm (h1:L.state = .ready) (h2:L.pending=none):{ zua L with state:=.ready,pending:=none }=L:=by
 cases L; simp_all [zua]
section
variable {X:Pt}{k:List Item}{E:Env}{ds:List Deferred}{H:List Seg}{ops:Array Oper}{os:List Oper}
theorem znl {f:Operand}{assign:Code}{gf:FuncId}{c:Array Value}{args:List Value}{R:Loop→Nat→Nat→Value→List Seg→Prop}(hr:X.c.round=none) (hb:Body X.P gf) (hf:ev E f=some (.func (.func gf) u c))
  (ha:∀ l:Nat,u.toList++[.func (.yield l) #[] #[]]++c.toList = .func (.yield l) #[] #[]::args)
  (hc:∀ (L:Loop) (l r:Nat),IsLoop X.n X.c.fn E params assign body L→SCalls X.P gf (.func (.yield l) #[] #[]::args) X.w0 X.base ([(l,.loop L)]::[(r,.deferred (some []))]::H) (R L l r))
  (hk:∀ (L:Loop) (l r:Nat) (v:Value) (H1:List Seg),IsLoop X.n X.c.fn E params assign body L→R L l r v H1→∃ i j s L',∃ H' : List Seg,H1[i]? = some s∧s[j]? = some (l,.loop L')∧L'.state≠.busy∧H1.set i (s.set j (l,.loop (overL L')))=H' ∧
   At X ((L'.pending.map Item.code).toList++k) E ({ target:=.collected r,args:=#[] }::ds) H'):At X (.code (.rangeFunc f params assign body)::k) E ds H :=
 znk (R:=fun a l r => R ⟨.ready,none,X.c.fn,a,params,assign,body,r⟩ l r) hr hb hf
  (fun a l r hA => ha l ▸ hc _ l r ⟨Z,hA,Z,Z,Z,Z,Z⟩)
  (fun a l r v H1 hA hR => hk _ l r v H1 ⟨Z,hA,Z,Z,Z,Z,Z⟩ hR)
end
theorem zfL {args:List Value}{assign:Code}{ps:List Tmp}
  (hL:IsLoop n f E params assign body L) (hi:H[i]? = some s) (hj:s[j]? = some (l,.loop L)) (hp:params.toList=ps) (hlen:args.length=ps.length) (hps:ps.all (fun t => Nat.blt t n)=true)
  (h:∀ c cs,At ⟨P,⟨f,.normal,some l⟩,n,c::cs,zq2 c cs w0 base R,w0,base⟩ [.code assign,.beginRound,.code body] (zsb E ps args) [] H):YCalls P l args w0 base H R:=by
 have h1:=hL.fn
 have h2:=hL.assign
 have h3:=hL.body
 have h4:=hL.params
 refine YCalls.of_walk hi hj hL.agree (h4 ▸ hp) hlen hps fun c cs => ?_
 grind
theorem zjF {assign:Code}(i j:Nat) (hL:IsLoop n f E0 params assign body L) (hr:X.c.round=some l) (hi:H[i]? = some s) (hj:s[j]? = some (l,.loop L)) (hH:H.set i (s.set j (l,.loop (zua L)))=H') (h:At X k E ds H'):At X (.beginRound::k) E ds H :=
 zlL hr hi hj hL.state hH h
section ends
variable {P:Program}{f f0:FuncId}{n n0 l:Nat}{c:Frame}{cs:List Frame}{w0:World}{base:Nat}{R:Value→List Seg→Prop}{s:Seg}{L:Loop}{H H' : List Seg}{E E0:Env}{params:Array Tmp}{assign body:Code}{k:List Item}{ds:List Deferred}
theorem zic (i j:Nat) (hL:IsLoop n0 f0 E0 params assign body L) (hi:H[i]? = some s) (hj:s[j]? = some (l,.loop (zua L))) (hH:H.set i (s.set j (l,.loop L))=H') (hR:R (.bool true) H') :
  At ⟨P,⟨f,.normal,some l⟩,n,c::cs,zq2 c cs w0 base R,w0,base⟩ [] E ds H :=
 zou hi hj (by rw [zqm hL.state hL.pending]; exact hH) hR
theorem znj (i j:Nat) (hi:H[i]? = some s) (hj:s[j]? = some (l,.loop (zua L))) (hH:H.set i (s.set j (l,.loop (znP L .ret)))=H') (hR:R (.bool false) H') :
  At ⟨P,⟨f,.normal,some l⟩,n,c::cs,zq2 c cs w0 base R,w0,base⟩ (.code .ret::k) E ds H :=
 zot hi hj hH hR
end ends
theorem zkp {assign:Code}(h:IsLoop n f E params assign body L):L.state≠.busy:=by rw [h.state]; decide
theorem zsK {c:Code}:(znP L c).state≠.busy:=by simp [znP]
theorem zpb {assign:Code}(h:IsLoop n f E params assign body L) (k:List Item):(L.pending.map Item.code).toList++k=k:=by rw [h.pending]; rfl
theorem zg4 (n:Nat) (h:n < 2 ^ 63):(BitVec.ofInt 64 (n:Int)).toNat=n:=by
 grind
theorem zhK {b:Int}(k:Nat) (q r:Nat) (ha:a=(q:Int) * 2 ^ k) (hb:b=(r:Int)) (hr:r < 2 ^ k) (hm:(q * 2 ^ k + r:Nat) < 2 ^ 63):IntKind.i64.wrap ((BitVec.ofInt IntKind.i64.bits a ||| BitVec.ofInt IntKind.i64.bits b).toNat:Int)=a + b:=by
 have e:a=((q * 2 ^ k:Nat):Int):=by grind
 subst hb
 rw [e]
 show IntKind.i64.wrap ((BitVec.ofInt 64 _ ||| BitVec.ofInt 64 _).toNat:Int)=_
 rw [zGh,zg4 _ kQ,zg4 _ kQ]
 have h:=Nat.shiftLeft_add_eq_or_of_lt hr q
 grind [Nat.shiftLeft_eq,w64]
theorem zeh (x:UInt8):x.toNat≤255:=by have:=x.toNat_lt; omega
theorem zcG (x:UInt8):IntKind.i64.wrap (x.toNat:Int)=(x.toNat:Int):=by grind [zeh,w64]
theorem zxw {b:Int}(k:Nat) (q:Nat) (ha:a=(q:Int)) (hb:b=((2 ^ k - 1:Nat):Int)) (hk:k < 63) (hm:q < 2 ^ 63):IntKind.i64.wrap ((BitVec.ofInt IntKind.i64.bits a &&& BitVec.ofInt IntKind.i64.bits b).toNat:Int)=((q % 2 ^ k:Nat):Int):=by
 subst ha; subst hb
 have h1:(2:Nat) ^ k < 2 ^ 63:=Nat.pow_lt_pow_right kQ hk
 have h2:0 < (2:Nat) ^ k:=Nat.pow_pos kQ
 show IntKind.i64.wrap ((BitVec.ofInt 64 _ &&& BitVec.ofInt 64 _).toNat:Int)=_
 rw [BitVec.toNat_and,zg4 _ hm,zg4 _ kQ,Nat.and_two_pow_sub_one_eq_mod]
 have h3:=zEE q h2
 grind [w64]
structure Sl {α:Type}(T:Ty α) (e:TypeId) where
  A:Option Addr
  C:Nat
  l:List α
  s:Seg
  own:Own T e A C l s
def Sl.nil {T:Ty α}:Sl T e:=⟨none,0,[],[],Own.nil T e⟩
structure Vw {α:Type}(T:Ty α) (w0:World) (base:Nat) (H:List Seg) where
  A:Option Addr
  C:Nat
  l:List α
  rd:Rd T w0 base H A C l
structure Vs (α:Type) where
  A:Option Addr
  C:Nat
  l:List α
abbrev zA0:Int×Int×Int×Bool×Int×Int×Int×Int×Vs UInt8:=(0,0,0,false,0,0,0,0,⟨none,0,[]⟩)
def tyVs (α:Type):Ty (Vs α):={ val:=fun v => .slice v.A v.l.length v.C,sz:=1,ok:=fun _ => rfl,plain:=fun x c hc => by simp [Value.cells] at hc; subst hc; rfl }
abbrev Bs:=Vs UInt8
abbrev tyL:Ty Bs:=tyVs UInt8
section drops
variable {P:Program}{f:FuncId}{fn:Func}{n:Nat}{cs:List Frame}{w0:World}{base:Nat}{H H2:List Seg}{R:Value→List Seg→Prop}{E:Env}{k:List Item}{rs:List ResultVar}{vs:List Value}
theorem zaW (is:List Nat) (q:Nat) (hok:zc5 is q=true) (hH:zbj H is q=H2) (hf:P.funcs[f]? = some fn) (hrs:fn.results.toList=rs) (hv:ResP P w0 base H E rs vs) (hR:R (zc3 vs) H2):Un ⟨P,⟨f,.normal,none⟩,n,cs,Left P f cs w0 base R,w0,base⟩ .returning E [] H:=by
 intro a w k ha S
 subst hrs
 exact ⟨_,.refl P _,zc3 vs,H2,_,w,rfl,rfl,⟨rfl,rfl,rfl,fn,hf,zgk ha S hv⟩,hR,hH ▸ S.pick is q hok⟩
theorem zaE (is:List Nat) (q:Nat) (hok:zc5 is q=true) (hH:zbj H is q=H2) (hf:P.funcs[f]? = some fn) (hrs:fn.results.toList=rs) (hv:ResP P w0 base H E rs vs) (hR:R (zc3 vs) H2) :
  At ⟨P,⟨f,.normal,none⟩,n,cs,Left P f cs w0 base R,w0,base⟩ (.code .ret::k) E [] H:=zbv rfl (zaW is q hok hH hf hrs hv hR)
end drops
section joins
variable {X:Pt}{k:List Item}{E:Env}{ds ds' : List Deferred}{H H' : List Seg}{ops:Array Oper}{os os' : List Oper}
theorem AtL.join (m:Nat) (h:(∀ E2,Sub E' E2→AtL X ops (os.drop m) k E2 ds H')→AtL X ops os k E ds H) (K:AtL X ops (os.drop m) k E' ds H'):AtL X ops os k E ds H:=h fun _ hs => AtL.mono hs K
theorem zaI (m:Nat) (h:(∀ E2,Sub E' E2→AtL X ops (os.drop m) k E2 ds H)→AtL X ops os k E ds H) (K:AtL X ops (os.drop m) k E' ds H):AtL X ops os k E ds H:=AtL.join m h K
theorem At.join (h:(∀ E2,Sub E' E2→At X k' E2 ds' H')→At X k E ds H) (K:At X k' E' ds' H'):At X k E ds H:=h fun _ hs => At.mono hs K
theorem zCA {v b:Bool}(h:v=b):some (Value.bool v)=some (Value.bool b):=by rw [h]
end joins
section skips
variable {X:Pt}{k:List Item}{E:Env}{ds:List Deferred}{H:List Seg}{ops:Array Oper}{os:List Oper}
theorem zaD {t:Nat}{want:Bool}(hg:o.guard=some (j,want)) (hj:(ops[j]?).bind (·.dst)=some t) (ht:Nat.blt t X.n=true) (hb:Env.get E t=some undef) (hd:zcq X.n o.dst=true)
  (h:AtL X ops os k (putE E o.dst undef) ds H):AtL X ops (o::os) k E ds H:=by
 intro is hi a w ha S
 cases is with
 | nil => grind
 | cons i is =>
  simp only [zDo,zD2] at hi
  obtain ⟨ho,hi⟩:=hi
  refine .step (zdF ho ?_) (h is hi _ _ (ha.put hd undef) S)
  have hv:=ha.get t _ hb
  have hs:t < a.size:=by rw [ha.size]; simp_all
  have:yielded ops a j=none:=by
   unfold yielded
   rw [hj]
   simp only [zFh,zED hs]
   rw [zDu,zED hs] at hv
   simp at hv
   rw [hv]
   rfl
  grind [Region.wanted]
end skips
section mins
variable {X:Pt}{E:Env}{H:List Seg}{ops:Array Oper}{os:List Oper}{k:List Item}{ds:List Deferred}{d:Nat}{ty:TypeId}{pos:String}{after:Array Edge}{g:Option (Nat×Bool)}{ts:Array TypeId}{x y:Operand}{kk:IntKind}{a b z:Int}
theorem zA2 (hx:ev E x=some (.int kk a)) (hy:ev E y=some (.int kk b)) (hz:(if b < a then b else a)=z):Does X E H (.call ⟨.builtin .min,#[x,y],ts⟩) (Is (.int kk z) H):=hz ▸ zuL hx hy
theorem zA3 (hx:ev E x=some (.int kk a)) (hy:ev E y=some (.int kk b)) (hz:(if a < b then b else a)=z):Does X E H (.call ⟨.builtin .max,#[x,y],ts⟩) (Is (.int kk z) H):=hz ▸ zuM hx hy
theorem ziw (hg:Wd X ops E g) (hd:Nat.blt d X.n=true) (hx:ev E x=some (.int kk a)) (hy:ev E y=some (.int kk b)) (hz:(if b < a then b else a)=z) (hk:AtL X ops os k ((d,.int kk z)::E) ds H) :
  AtL X ops (⟨some d,.call ⟨.builtin .min,#[x,y],ts⟩,ty,pos,after,g⟩::os) k E ds H:=zai (zA2 hx hy hz) hg hd hk
theorem zpX (hg:Wd X ops E g) (hd:Nat.blt d X.n=true) (hx:ev E x=some (.int kk a)) (hy:ev E y=some (.int kk b)) (hz:(if a < b then b else a)=z) (hk:AtL X ops os k ((d,.int kk z)::E) ds H) :
  AtL X ops (⟨some d,.call ⟨.builtin .max,#[x,y],ts⟩,ty,pos,after,g⟩::os) k E ds H:=zai (zA3 hx hy hz) hg hd hk
end mins
section nils
variable {X:Pt}{E:Env}{H:List Seg}{ops:Array Oper}{os:List Oper}{k:List Item}{ds:List Deferred}
  {d:Nat}{ty:TypeId}{pos:String}{after:Array Edge}{g:Option (Nat×Bool)}
theorem zgZ (hu:P.underlying t=some (.interface ms)):(Op.equalIn (n + 1) t .nilIface .nilIface).run P w = .ok true w:=by
 simp [Op.equalIn,run_underlying hu]
theorem zlE (hu:X.P.underlying tx=some (.interface ms)) (hx:ev E x=some .nilIface):Does X E H (.binOp .neq tx x (.const .nilIface) tz) (Is (.bool false) H) :=
 zoh rfl (by cases x <;> rfl) hx rfl (fun w => zgZ hu)
theorem zer (hu:X.P.underlying tx=some (.interface ms)) (hg:Wd X ops E g) (hd:Nat.blt d X.n=true) (hx:ev E x=some .nilIface) (hk:AtL X ops os k ((d,.bool false)::E) ds H) :
  AtL X ops (⟨some d,.binOp .neq tx x (.const .nilIface) tz,ty,pos,after,g⟩::os) k E ds H :=
 zai (zlE hu hx) hg hd hk
end nils
theorem zdS {W:World}{a:Addr}{v:Value}(h:W.cell? a=some v):a.block < W.heap.size:=by
 unfold World.cell? at h
 grind
theorem zAV {a:Addr}{W:World}{v:Value}(h:W.cell? (a.add 0)=some v):a=⟨a.block,a.off,none⟩:=by
 have:a.add 0=a:=by simp [Addr.add]
 rw [this] at h
 have hs:=World.cell?_spot h
 cases a
 simp_all
def Reads (P:Program) (W:World) (t:TypeId) (T:Ty α) (Q:α→Prop):Prop :=
 ∀ {H:Type}(enc:TypeId×Value→H) (spare:Nat→Bool) (held:Bool) (fuel:Nat) (cs:List Value) (x:DataW H×List MemPlace),DataW.trod enc P W 0 spare held fuel t cs=some x→(∀ n ∈ x.1.weights P t,n≤140737488351232)→∃ a,cs=(T.val a).cells.toList∧Q a
def I64 (n:Int):Prop:=-9223372036854775808≤n∧n≤9223372036854775807
def tyBool:Ty Bool:={ val:=fun b => .bool b,sz:=1,ok:=fun _ => rfl,plain:=fun x c hc => by simp [Value.cells] at hc; subst hc; rfl }
theorem Reads.int {W:World}(ht:P.underlying t=some (.int .i64)):Reads P W t tyI I64:=fun enc spare held fuel cs x h hw0 => by
 obtain ⟨n,rfl,_,hw⟩:=DataW.trod_int ht h
 refine ⟨n,Z,?_⟩
 grind [Lit.wf,IntKind.min,IntKind.max,IntKind.signed,IntKind.bits,I64]
theorem Reads.bool {W:World}(ht:P.underlying t=some .bool):Reads P W t tyBool (fun _ => True):=fun enc spare held fuel cs x h hw0 => by
 obtain ⟨b,rfl,_⟩:=DataW.trod_bool ht h
 exact ⟨b,rfl,trivial⟩
theorem Reads.u8 {W:World}(ht:P.underlying t=some (.int .u8)):Reads P W t tyB (fun _ => True):=fun enc spare held fuel cs x h hw0 => by
 obtain ⟨n,rfl,_,hw⟩:=DataW.trod_int ht h
 have hw:0≤n∧n≤255:=by grind [Lit.wf,IntKind.min,IntKind.max,IntKind.signed,IntKind.bits]
 refine ⟨UInt8.ofNat n.toNat,?_,trivial⟩
 have e:((UInt8.ofNat n.toNat).toNat:Int)=n:=by
  grind [UInt8.toNat_ofNat_of_lt']
 show [Value.int .u8 n]=[Value.int .u8 _]
 rw [e]
theorem Reads.str {W:World}(ht:P.underlying t=some .string):Reads P W t tyS (fun l => l.length≤140737488351232):=fun enc spare held fuel cs x h hw0 => by
 obtain ⟨s,rfl,hx,hs⟩:=DataW.trod_string ht h
 subst hx
 exact ⟨s.data.toList,rfl,hw0 _ (by simp [DataW.weights])⟩
theorem zfl {H:Type}{P:Program}{e:TypeId}:∀ {ds:List (DataW H)}{d:DataW H},d ∈ ds→∀ n ∈ d.weights P e,n ∈ DataW.weightsAll P e ds
 | d0::ds,d,hd,n,hn => by
  simp only [DataW.weightsAll,zDt]
  rcases zDp.1 hd with rfl | hd
  ·exact .inl hn
  ·exact .inr (zfl hd n hn)
theorem Reads.slice {W:World}{T:Ty α}{Q:α→Prop}(ht:P.underlying t=some (.slice e)) (hc:P.cellsOf e=T.sz) (hz:0 < T.sz) (k:Nat) (hk:P.bytesOf e=k) (he:Reads P W e T Q) :
  Reads P W t (tyVs α) (fun v => Rd T W W.heap.size [] v.A v.C v.l∧v.l.length * k≤140737488351232∧∀ x ∈ v.l,Q x):=fun {H} enc spare held fuel cs x h hw0 => by
 rcases Deep.open_slice ht h with ⟨rfl,_⟩ | ⟨a,len,cap,m,n,D,Pl,rfl,hb,hl,hm,hmm,hxe,hx⟩
 ·exact ⟨⟨none,0,[]⟩,Z,Rd.nil_,by simp,by simp⟩
 ·have hlm:len≤m:=by grind
  subst hxe
  have hw1:len * k≤140737488351232:=by
   grind [DataW.weights,List.length_map,List.length_range,List.mem_cons_self,Nat.le_trans,Nat.mul_le_mul_right]
  have hw2:∀ i,i < len→∀ n ∈ (D i).weights P e,n≤140737488351232:=fun i hi n hn => hw0 n (by
   simp only [DataW.weights,ht]
   exact zDF _ (zEp _ (zfl (zDC.2 ⟨i,zD1.2 hi,Z⟩) n hn)))
  have hv:∀ i,∃ y:Option α,i < len→∃ z,y=some z∧Q z∧W.cells? 0 (a.add (i * T.sz)) T.sz=some (T.val z).cells.toList:=fun i => by
   by_cases hi:i < len
   ·obtain ⟨cs',h1,h2⟩:=hx i kQ
    obtain ⟨z,rfl,hq⟩:=he enc spare held n cs' _ h2 (hw2 i hi)
    exact ⟨some z,fun _ => ⟨z,Z,hq,by grind⟩⟩
   ·exact ⟨none,fun hi2 => absurd hi2 hi⟩
  obtain ⟨f,hf⟩:=zGf hv
  have hlist:∃ l:List α,l.length=len∧∀ i,i < len→∃ z,l[i]? = some z∧Q z∧W.cells? 0 (a.add (i * T.sz)) T.sz=some (T.val z).cells.toList:=by
   have:∀ k,k≤len→∃ l:List α,l.length=k∧∀ i,i < k→∃ z,l[i]? = some z∧Q z∧W.cells? 0 (a.add (i * T.sz)) T.sz=some (T.val z).cells.toList:=by
    intro k
    induction k with
    | zero => simp_all
    | succ k ih =>
     intro hk
     obtain ⟨l,hl1,hl2⟩:=ih kQ
     obtain ⟨z,_,hq,hz⟩:=hf k kQ
     refine ⟨l++[z],by grind,fun i hi => ?_⟩
     grind
   simp_all
  obtain ⟨l,hlen,hall⟩:=hlist
  subst hlen
  refine ⟨⟨some a,cap,l⟩,Z,⟨hl,by grind [maxLen],(fun hA => by cases hA),fun hne => ?_⟩,hw1,fun x hx => ?_⟩
  ·have h0:0 < l.length:=zE3.2 hne
   obtain ⟨z0,_,_,hz0⟩:=hall 0 h0
   have hs0:=(World.cells?_some hz0).2.2 0 hz
   rw [Nat.zero_mul] at hs0
   have hlt0:0 < (T.val z0).cells.toList.length:=by rw [zEu,T.ok]; exact hz
   rw [zDJ hlt0] at hs0
   have haa:a.add 0=a:=by simp [Addr.add]
   rw [haa] at hs0
   have ha:=zAV hs0
   refine ⟨a.block,a.off,by grind,fun w S j u hu => ?_⟩
   have hj:j < l.length * T.sz:=by grind [List.getElem?_eq_some_iff,zaC]
   have hi:j / T.sz < l.length:=Nat.div_lt_of_lt_mul (by grind)
   obtain ⟨z,hz1,_,hz2⟩:=hall (j / T.sz) hi
   have hk:j % T.sz < T.sz:=zEE _ hz
   have h1:=(World.cells?_some hz2).2.2 (j % T.sz) hk
   have hlt:j % T.sz < (T.val z).cells.toList.length:=by rw [zEu,T.ok]; exact hk
   have e:j / T.sz * T.sz + j % T.sz=j:=by grind [Nat.mul_comm,Nat.div_add_mod]
   have h2:=zhV (T:=T) (j:=j % T.sz) hz1 (u:=(T.val z).cells.toList[j % T.sz]) (by grind)
   rw [e,hu] at h2
   rw [zDJ hlt,← h2,Deep.add_add,e] at h1
   rw [ha,zaO] at h1
   have hB:=zdS h1
   rw [S.below.cell hB]
   exact h1
  grind [List.mem_iff_getElem?,List.getElem?_eq_some_iff]
def ReadsF (P:Program) (W:World) (tot off:Nat) (fs:List (TypeId×Nat)) (cells:β→List Value) (Q:β→Prop):Prop :=
 ∀ {H:Type}(enc:TypeId×Value→H) (spare:Nat→Bool) (held:Bool) (n:Nat) (cs:List Value) (xs:List (DataW H×List MemPlace)),cs.length=tot→xs.length=fs.length →
  (∀ (i:Nat) (f:TypeId×Nat),fs[i]? = some f→DataW.trod enc P W 0 spare held n f.1 ((cs.drop f.2).take (P.cellsOf f.1))=xs[i]?)→(∀ m ∈ DataW.weightsEach P (fs.map (·.1)) (xs.map (·.1)),m≤140737488351232)→∃ b,cs.drop off=cells b∧Q b
theorem ReadsF.nil {W:World}(tot:Nat):ReadsF P W tot tot [] (fun (_:Unit) => []) (fun _ => True):=fun enc spare held n cs xs hl _ _ _ => ⟨(),by grind,trivial⟩
theorem ReadsF.cons {W:World}{tot:Nat}(off k t:Nat) {fs:List (TypeId×Nat)}{T:Ty α}{cells:β→List Value}{Q1:α→Prop}{Q:β→Prop}(hk:P.cellsOf t=k) (h1:Reads P W t T Q1) (h2:ReadsF P W tot (off + k) fs cells Q) :
  ReadsF P W tot off ((t,off)::fs) (fun (b:α×β) => (T.val b.1).cells.toList++cells b.2) (fun b => Q1 b.1∧Q b.2):=fun enc spare held n cs xs hl hxl hf hw => by
 cases xs with
 | nil => grind
 | cons x xs =>
  have h0:=hf 0 (t,off) rfl
  rw [hk] at h0
  obtain ⟨a,ha,qa⟩:=h1 enc spare held n _ x h0 (fun m hm => hw m (by grind [DataW.weightsEach]))
  obtain ⟨b,hb,qb⟩:=h2 enc spare held n cs xs hl (by grind) (fun i g hg => hf (i + 1) g (by grind)) (fun m hm => hw m (by grind [DataW.weightsEach]))
  refine ⟨(a,b),?_,qa,qb⟩
  grind [List.drop_drop,List.take_append_drop]
theorem Reads.struct {W:World}{t tot:Nat}{fl:List (TypeId×Nat)}{cells:β→List Value}{Q:β→Prop}{T:Ty γ}{Q' : γ→Prop}(h:ReadsF P W tot 0 fl cells Q) (g:β→γ) (ht:P.underlying t=some (.struct fs)) (hfl:fs.toList.map (fun f => (f.type,f.offset))=fl) (hc:P.cellsOf t=tot)
  (hg:∀ b,cells b=(T.val (g b)).cells.toList) (hQ:∀ b,Q b→Q' (g b)):Reads P W t T Q':=fun enc spare held fuel cs x hx hw => by
 obtain ⟨xs,n,_,rfl,hl,hxl,hf⟩:=DataW.trod_struct ht hx
 subst hfl
 obtain ⟨b,hb,qb⟩:=h enc spare held n cs xs (hl.trans hc) (by grind) (fun i f hi => by
  grind) (fun m hm => hw m (by
  simp only [DataW.weights,ht]
  rw [zF8] at hm
  exact hm))
 grind
theorem zqZ {W:World}{T:Ty α}{Q:α→Prop}(ht:P.underlying t=some (.struct fs)) (he:Reads P W t T Q) (hT:∀ a,∃ cs,T.val a = .agg cs) {r:Reach}{b0:Nat}{H:Type}{enc:TypeId×Value→H}{held:Bool}{v:Value}{d:DataW H}{ps:List MemPlace}(hval:Value.okWide P W r b0 t v) (h:DataW.Trod enc P W 0 spare held t v d ps) (hw:∀ n ∈ d.weights P t,n≤140737488351232):∃ a,v=T.val a∧Q a:=by
 obtain ⟨cs,rfl,hsz⟩:=okWide_struct ht hval
 obtain ⟨fuel,hf⟩:=h
 obtain ⟨a,h1,h2⟩:=he enc spare held fuel _ _ hf hw
 obtain ⟨ds,hds⟩:=hT a
 refine ⟨a,?_,h2⟩
 rw [hds] at h1 ⊢
 have:cs=ds:=by
  have h3:cs.toList=ds.toList:=h1
  simp_all
 grind
theorem zuv {W:World}(ht:P.underlying t=some (.int .i64)) {r:Reach}{b0:Nat}{H:Type}{enc:TypeId×Value→H}{held:Bool}{v:Value}{d:DataW H}{ps:List MemPlace}(hval:Value.okWide P W r b0 t v) (h:DataW.Trod enc P W 0 spare held t v d ps) (hw:∀ n ∈ d.weights P t,n≤140737488351232):∃ n,v = .int .i64 n∧I64 n:=by
 obtain ⟨n,rfl⟩:=okWide_int ht hval
 obtain ⟨fuel,hf⟩:=h
 obtain ⟨m,h1,h2⟩:=Reads.int ht enc spare held fuel _ _ hf hw
 simp [Value.cells,tyI] at h1
 grind
theorem zB3 {args:List Value}{W:World}(h:SCalls P f args W W.heap.size [] (fun v H' => v = .bool true∧H' = [])):Calls P f args.toArray W fun e W' => e = .returned (.bool true)∧Below W.heap.size W W' :=
 (h W (zm4 W)).mono fun _ _ ⟨v,H',he,⟨hv,_⟩,S⟩ => ⟨by grind,S.below⟩
theorem Sep.flat (S:Sep w0 base w H) (h:H.flatten.Perm H'.flatten):Sep w0 base w H' :=
 ⟨S.below,S.le,fun p hp => S.mem p (h.mem_iff.2 hp),(h.map _).nodup_iff.1 S.nodup⟩
section flats
variable {X:Pt}{k:List Item}{E:Env}{ds:List Deferred}{H H' : List Seg}{ops:Array Oper}{os:List Oper}
theorem zu0 (hp:H.flatten.Perm H'.flatten) (h:At X k E ds H'):At X k E ds H:=fun a w ha S => h a w ha (S.flat hp)
theorem AtL.flat (hp:H.flatten.Perm H'.flatten) (h:AtL X ops os k E ds H'):AtL X ops os k E ds H:=fun is hi a w ha S => h is hi a w ha (S.flat hp)
theorem zC5 (h:H=H') (hk:At X k E ds H'):At X k E ds H:=by grind
theorem zlI (h:H=H') (hk:AtL X ops os k E ds H'):AtL X ops os k E ds H:=by grind
theorem SCalls.flat {args:List Value}(hp:H.flatten.Perm H'.flatten) (h:SCalls P f args w0 base H' R):SCalls P f args w0 base H R:=fun w S => h w (S.flat hp)
end flats
theorem Does.pick (is:List Nat) (m:Nat) (hok:zc5 is m=true) (hH:zbj H is m=H') (h:Does X E H' op R):Does X E H op R:=by
 intro dst ty pos after g ops i is' k ds a w ho hw ha S
 exact h dst ty pos after g ops i is' k ds a w ho hw ha (hH ▸ S.pick is m hok)
section views
variable {α:Type}{T:Ty α}{w0:World}{base:Nat}{H H' : List Seg}{A:Option Addr}{C:Nat}{l:List α}{e:TypeId}{s:Seg}
theorem Rd.flat (hp:H.flatten.Perm H'.flatten) (h:Rd T w0 base H' A C l):Rd T w0 base H A C l :=
 ⟨h.le,h.cap,h.nil,fun hl => let ⟨b,off,hA,hc⟩:=h.cells hl; ⟨b,off,hA,fun w S => hc w (S.flat hp)⟩⟩
theorem Rd.pick (is:List Nat) (m:Nat) (hok:zc5 is m=true) (hH:zbj H is m=H') (h:Rd T w0 base H' A C l):Rd T w0 base H A C l :=
 ⟨h.le,h.cap,h.nil,fun hl => let ⟨b,off,hA,hc⟩:=h.cells hl; ⟨b,off,hA,fun w S => hc w (hH ▸ S.pick is m hok)⟩⟩
end views
theorem Does.quiet {v:Value}(is:List Nat) (m:Nat) (hok:zc5 is m=true) (hH:zbj H is m=H') (is2:List Nat) (hok2:zc5 is2 m=true) (hH2:zbj H' is2 m=H) (h:Does X E H' op (Is v H')):Does X E H op (Is v H):=by
 intro dst ty pos after g ops i is' k ds a w ho hw ha S
 obtain ⟨v',H1,w',⟨h1,h2⟩,S',hs⟩:=h dst ty pos after g ops i is' k ds a w ho hw ha (hH ▸ S.pick is m hok)
 subst h2
 exact ⟨v',H,w',⟨h1,rfl⟩,hH2 ▸ S'.pick is2 m hok2,hs⟩
def zbU {T:Ty α}(ys:List (Sl T e)):Seg:=(ys.map (·.s)).flatten
def Sl.v {T:Ty α}(y:Sl T e):Vs α:=⟨y.A,y.C,y.l⟩
section bundles
variable {α:Type}{T:Ty α}{w0:World}{base:Nat}{H:List Seg}{e:TypeId}
theorem zvC:zbU ([]:List (Sl T e))=[]:=rfl
theorem zgF (y:Sl T e) (ys:List (Sl T e)):zbU (y::ys)=y.s++zbU ys:=by simp [zbU]
theorem zoK (xs ys:List (Sl T e)):zbU (xs++ys)=zbU xs++zbU ys:=by simp [zbU]
theorem zto (y:Sl T e) (ys:List (Sl T e)) (H:List Seg):(y.s::zbU ys::H).flatten.Perm (zbU (ys++[y])::H).flatten:=by
 grind [List.flatten_cons,zoK,zgF,zvC,List.append_assoc,List.Perm.append_right,List.perm_append_comm]
theorem zwE (xs ys:List (Sl T e)) (H:List Seg):(zbU xs::zbU ys::H).flatten.Perm (zbU (xs++ys)::H).flatten:=by simp [zoK]
theorem zwD {ys:List (Sl T e)}{y:Sl T e}(h:ys[i]? = some y) (H:List Seg):(zbU ys::H).flatten.Perm (y.s::zbU (ys.eraseIdx i)::H).flatten:=by
 simp only [zEb,← zDg]
 refine zEN _ ?_
 induction ys generalizing i with
 | nil => grind
 | cons z ys ih =>
  cases i with
  | zero =>
   simp_all [zDX,zEH,zgF]
  | succ i =>
   rw [zDz] at h
   rw [zFu,zgF,zgF]
   refine ((ih h).append_left z.s).trans ?_
   grind [List.append_assoc,List.Perm.append_right,List.perm_append_comm]
theorem Sl.rd (y:Sl T e) (hi:H[i]? = some y.s):Rd T w0 base H y.A y.C y.l:=y.own.rd hi
theorem zAY {ys:List (Sl T e)}{y:Sl T e}(hy:y ∈ ys) (hi:H[i]? = some (zbU ys)):Rd T w0 base H y.A y.C y.l:=by
 obtain ⟨j,hj⟩:=zDd.1 hy
 have hp:H.flatten.Perm (zbU ys::H.eraseIdx i).flatten:=by
  clear hj hy
  induction H generalizing i with
  | nil => grind
  | cons t H ih =>
   cases i with
   | zero => simp_all
   | succ i =>
    rw [zDz] at hi
    rw [zFu]
    simp only [zEb] at ih ⊢
    refine ((ih hi).append_left t).trans ?_
    grind [List.append_assoc,List.Perm.append_right,List.perm_append_comm]
 exact Rd.flat (hp.trans (zwD hj _)) (y.own.rd (i:=0) Z)
theorem zyr {ys:List (Sl T e)}{l:List (Vs α)}(hl:l=ys.map Sl.v) (hi:H[i]? = some (zbU ys)):∀ x ∈ l,Rd T w0 base H x.A x.C x.l:=fun x hx => by
 subst hl
 obtain ⟨y,hy,rfl⟩:=zDC.1 hx
 exact zAY hy hi
end bundles
theorem zaA {l:List α}{d:α}(h:i < l.length):l.getD i d ∈ l:=by
 grind
section windows
variable {α:Type}{T:Ty α}{e:TypeId}{A:Option Addr}{C:Nat}{l:List α}{s:Seg}
theorem Own.grow (h:Own T e A C l s) (hj:l.length≤j) (hm:j≤C):∃ r',r'.length=j - l.length∧Own T e (if C=0 then A else A.map (·.add (0 * T.sz))) C (l++r') s:=by
 obtain ⟨r,rfl,hR⟩:=h
 have h1:=hR.cut (i:=0) (j:=j) (m:=l.length + r.length) (zDq _) hm (zDe _)
 have e1:subl (l++r) 0 j=l++r.take (j - l.length):=by
  rw [zbK,zFA,zDc hj]
 refine ⟨r.take (j - l.length),by grind,subl (l++r) j (l.length + r.length),?_,?_⟩
 ·grind [zal]
 grind
theorem zm5 (h:Own T e A C l s) (hA:A.isNone=true):l=[]:=by
 obtain ⟨r,rfl,h⟩:=h
 rcases h with ⟨_,h,_⟩ | ⟨g,_,_,_,h,_⟩
 ·exact h
 grind
theorem znd {A':Option Addr}{C' n':Nat}{news:List α}(i:Nat) (hu:X.P.underlying t=some (.slice e)) (hs:za5 X.P e T.sz=true) (hi:H[i]? = some s) (ho:Own T e A C l s)
  (hA:A' = (if m=j then A else A.map (·.add (j * T.sz)))) (hn:n'≤m - j) (hjn:j + n'≤l.length) (hr:Rd T X.w0 X.base H A2 C2 news) (hx:ev E x=some (.slice A' n' C')) (hy:ev E y=some (.slice A2 news.length C2)) :
  Does X E H (.call ⟨.builtin .copy,#[x,y],#[t,t2]⟩) (fun v H' => ∃ s',Own T e A C (l.take j++news.take n'++l.drop (j + min news.length n')) s'∧v=int ((min news.length n' : Nat):Int)∧H' = H.set i s') :=
 zaq Z (fun dst ty pos after g ρ w hρ S => by
  have hf:=hr.first (P:=X.P) S (min news.length n') (Nat.min_le_left _ _)
  have hmin:Nat.min news.length n' = min news.length n':=rfl
  have hlen:(news.take (min news.length n')).length=min news.length n':=by grind
  have etake:news.take (min news.length n')=news.take n':=by
   grind
  by_cases h0:min news.length n' = 0
  ·have hset:H.set i s=H:=by
    apply zDV
    grind
   have e0:news.take n' = []:=by grind
   refine ⟨_,w,H,?_,S,s,?_,Z,hset.symm⟩
   ·rw [h0] at hf
    have ec:T.cells []=[]:=rfl
    simp [ec] at hf
    cases A' <;> simp [execOp,resolve,invoke,builtin,hρ _ _ hx,hρ _ _ hy,Builtin.copy_,run_underlying hu,zb4 hs,Builtin.lenOf,hmin,h0,hf,goInt,zjH,int,ec]
   ·rw [e0,h0,zDO,zDZ,zDB]; exact ho
  ·cases A with
   | none =>
    obtain ⟨r,_,h⟩:=ho
    rcases h with ⟨_,h1,_,h2⟩ | ⟨_,_,_,_,h,_⟩
    ·grind
    grind
   | some a =>
    have hA2:A' = some (a.add (j * T.sz)):=by grind
    subst hA2
    obtain ⟨r,rfl,hor⟩:=ho
    obtain ⟨s',w',hst,ho',S'⟩:=hor.over (P:=X.P) S hi rfl j (news.take (min news.length n')) kQ
    rw [hlen,etake] at ho'
    refine ⟨_,w',_,?_,S',s',⟨r,?_,ho'⟩,Z,Z⟩
    ·simp [execOp,resolve,invoke,builtin,hρ _ _ hx,hρ _ _ hy,Builtin.copy_,run_underlying hu,zb4 hs,Builtin.lenOf,hmin,hf,hst,goInt]
    grind)
end windows
section loops
variable {X:Pt}{k:List Item}{E:Env}{ds:List Deferred}{H:List Seg}
theorem zxJ {b:Code}{ζ η:Type}(Ei:α→β→γ→δ→ε→ζ→η→Env) (Hi:α→β→γ→δ→ε→ζ→η→List Seg) (I:α→β→γ→δ→ε→ζ→η→Prop) (μ:α→β→γ→δ→ε→ζ→η→Nat) (x:α) (y:β) (z:γ) (u:δ) (v:ε) (p:ζ) (q:η) (h0:I x y z u v p q) (hE:Sub (Ei x y z u v p q) E) (hH:Hi x y z u v p q=H)
  (h:∀ x y z u v p q,I x y z u v p q→(∀ x' y' z' u' v' p' q',I x' y' z' u' v' p' q'→μ x' y' z' u' v' p' q' < μ x y z u v p q→∀ E',Sub (Ei x' y' z' u' v' p' q') E'→At X (.inLoop b::k) E' ds (Hi x' y' z' u' v' p' q'))→At X (.code b::.inLoop b::k) (Ei x y z u v p q) ds (Hi x y z u v p q)):At X (.code (.loop b)::k) E ds H :=
 zbM (ι:=α×β×γ×δ×ε×ζ×η) (fun t => Ei t.1 t.2.1 t.2.2.1 t.2.2.2.1 t.2.2.2.2.1 t.2.2.2.2.2.1 t.2.2.2.2.2.2) (fun t => Hi t.1 t.2.1 t.2.2.1 t.2.2.2.1 t.2.2.2.2.1 t.2.2.2.2.2.1 t.2.2.2.2.2.2) (fun t => I t.1 t.2.1 t.2.2.1 t.2.2.2.1 t.2.2.2.2.1 t.2.2.2.2.2.1 t.2.2.2.2.2.2) (fun t => μ t.1 t.2.1 t.2.2.1 t.2.2.2.1 t.2.2.2.2.1 t.2.2.2.2.2.1 t.2.2.2.2.2.2) (x,y,z,u,v,p,q) h0 hE hH
  fun t ht ih => h _ _ _ _ _ _ _ ht fun x' y' z' u' v' p' q' hi hm => ih (x',y',z',u',v',p',q') hi hm
end loops
def zbm:Ty (yB×yB):={ val:=fun x => .agg #[str x.1,str x.2],sz:=2,ok:=fun _ => rfl,plain:=fun x c hc => by simp [str,Value.cells] at hc; rcases hc with rfl | rfl <;> rfl }
def tyRec:Ty (yB×Int×Int×Int×yB):={ val:=fun x => .agg #[str x.1,int x.2.1,int x.2.2.1,int x.2.2.2.1,str x.2.2.2.2],sz:=5,ok:=fun _ => rfl,plain:=fun x c hc => by simp [int,str,Value.cells] at hc; rcases hc with rfl | rfl | rfl | rfl | rfl <;> rfl }
def tyQn:Ty (yB×Int×Int):={ val:=fun x => .agg #[str x.1,int x.2.1,int x.2.2],sz:=3,ok:=fun _ => rfl,plain:=fun x c hc => by simp [int,str,Value.cells] at hc; rcases hc with rfl | rfl | rfl <;> rfl }
def zdI:Ty (yB×Bool):={ val:=fun x => .agg #[str x.1,.bool x.2],sz:=2,ok:=fun _ => rfl,plain:=fun x c hc => by simp [str,Value.cells] at hc; rcases hc with rfl | rfl <;> rfl }
theorem w64u (h1:0≤z) (h2:z≤18446744073709551615):IntKind.u64.wrap z=z:=by
 simp only [IntKind.wrap,IntKind.bits,IntKind.signed,zEX,zDU]
 grind
section
variable {X:Pt}{k:List Item}{E:Env}{ds:List Deferred}{H:List Seg}{ops:Array Oper}{os:List Oper}
  {d:Nat}{ty:TypeId}{pos:String}{after:Array Edge}{g:Option (Nat×Bool)}{α:Type}{T:Ty α}
theorem zib {z:Value}{l:List α}(T:Ty α) (hz:zbr X.P e=some z) (hcs:z.cells=(T.cells l).toArray) (hle:l.length≤9223372036854775807) (hg:Wd X ops E g) (hd:Nat.blt d X.n=true)
  (hk:∀ b s,Own T e (some ⟨b,0,none⟩) l.length l s→AtL X ops os k ((d,pB b)::E) ds (s::H)) :
  AtL X ops (⟨some d,.alloc e,ty,pos,after,g⟩::os) k E ds H:=by
 refine AtL.alloc hz hcs hg hd fun b => ?_
 exact zau T (l:=l) Z Z hle fun s o => hk b s o
theorem zjv {t e:Nat}{a:Addr}{i:Int}(j:Nat) (hu:X.P.underlying t=some (.array n e)) (hs:za5 X.P e sz=true) (hx:ev E x=some (.pointer (some a))) (hi:ev E ix=some (.int kk i)) (hij:i=(j:Int)) (hj:j < n) :
  Does X E H (.indexAddr t x ix) (Is (.pointer (some (zdt (some a) (j * sz)))) H) :=
 zan rfl (fun dst ty pos after g ρ w hρ => by
  subst hij
  simp [execOp,hρ _ _ hx,hρ _ _ hi,Instr.indexAt,Instr.sureAddr,asIntOf,run_underlying hu,hj,zb4 hs,zdt])
theorem zfT {t e:Nat}{a:Addr}{i:Int}(j:Nat) (hu:X.P.underlying t=some (.array n e)) (hs:za5 X.P e sz=true) (hg:Wd X ops E g) (hd:Nat.blt d X.n=true) (hx:ev E x=some (.pointer (some a))) (hi:ev E ix=some (.int kk i))
  (hij:i=(j:Int)) (hj:j < n) (hk:AtL X ops os k ((d,.pointer (some (zdt (some a) (j * sz))))::E) ds H) :
  AtL X ops (⟨some d,.indexAddr t x ix,ty,pos,after,g⟩::os) k E ds H :=
 zai (zjv j hu hs hx hi hij hj) hg hd hk
theorem zbf {t e o:Nat}{i:Int}(j:Nat) (hu:X.P.underlying t=some (.array n e)) (hs:za5 X.P e sz=true) (hg:Wd X ops E g) (hd:Nat.blt d X.n=true) (hx:ev E x=some (.pointer (some ⟨b,o,none⟩))) (hi:ev E ix=some (.int kk i))
  (hij:i=(j:Int)) (hj:Nat.blt j n=true) (hr:o + j * sz=r) (hk:AtL X ops os k ((d,.pointer (some ⟨b,r,none⟩))::E) ds H) :
  AtL X ops (⟨some d,.indexAddr t x ix,ty,pos,after,g⟩::os) k E ds H:=by
 subst hr
 refine zfT j hu hs hg hd hx hi hij (zdr hj) ?_
 grind [zdt,zaO]
theorem Rd.arr {l:List α}(h:Rd T w0 base H (some ⟨b,0,none⟩) C l):∀ j v,(T.cells l)[j]? = some v→Cell w0 base H ((⟨b,0,none⟩:Addr).add j) v:=by
 intro j v hj w S
 obtain ⟨b',off,h1,hc⟩:=h.cells (by rintro rfl; grind [Ty.cells])
 grind [zaO]
theorem zoq {t:Nat}{l:List α}(hr:Rd T X.w0 X.base H (some ⟨b,0,none⟩) C l) (hf:aggN X.P t=some n) (hn:(T.cells l).length=n) (hg:Wd X ops E g) (hd:Nat.blt d X.n=true) (hx:ev E x=some (.pointer (some ⟨b,0,none⟩)))
  (hk:AtL X ops os k ((d,.agg (T.cells l).toArray)::E) ds H):AtL X ops (⟨some d,.load t x,ty,pos,after,g⟩::os) k E ds H :=
 zni hf hg hd hx hn hr.arr hk
theorem LoadsTo.arr {t:Nat}{l:List α}(hr:Rd T w0 base H (some ⟨b,0,none⟩) C l) (hf:aggN P t=some n) (hn:(T.cells l).length=n):LoadsTo P w0 base H t ⟨b,0,none⟩ (.agg (T.cells l).toArray) :=
 LoadsTo.agg hf hn hr.arr
theorem zog {n:TypeId}{l l' : List α}{v:Value}(i:Nat) (hsz:za5 X.P t n=true) (hi:H[i]? = some s) (ho:Own T e (some ⟨b,0,none⟩) C l s) (hl:l'.length=l.length) (hv:v.cells=(T.cells l').toArray) (hn:(T.cells l').length=n)
  (hx:ev E x=some (pB b)) (hy:ev E y=some v):Does X E H (.store t x y) (fun v' H' => ∃ s',Own T e (some ⟨b,0,none⟩) C l' s'∧v' = undef∧H' = H.set i s') :=
 zcL Z (fun dst ty pos after g ρ w hρ S => by
  obtain ⟨r,rfl,hor⟩:=ho
  obtain ⟨s',w',hst,ho',S'⟩:=hor.over (P:=X.P) S hi rfl 0 l' kQ
  have hset:l.take 0++l'++l.drop (0 + l'.length)=l':=by
   grind
  rw [hset] at ho'
  refine ⟨w',_,?_,S',s',⟨r,by rw [hl],ho'⟩,Z,Z⟩
  have hst2:(storeCells (⟨b,0,none⟩:Addr) (T.cells l')).run X.P w = .ok () w':=by
   grind [zaO]
  have hvs:v.cells.size=n:=by grind
  simp [execOp,hρ _ _ hx,hρ _ _ hy,Instr.storeAt,Instr.sureAddr,storeVar,zb4 hsz,hv,hn,hst2])
theorem zhZ {n:TypeId}{l l' : List α}{v:Value}(i:Nat) (hsz:za5 X.P t n=true) (hi:H[i]? = some s) (ho:Own T e (some ⟨b,0,none⟩) C l s) (hl:l'.length=l.length) (hv:v.cells=(T.cells l').toArray) (hn:(T.cells l').length=n) (hg:Wd X ops E g)
  (hx:ev E x=some (.pointer (some ⟨b,0,none⟩))) (hy:ev E y=some v)
  (hk:∀ s',Own T e (some ⟨b,0,none⟩) C l' s'→AtL X ops os k E ds (H.set i s')) :
  AtL X ops (⟨none,.store t x y,ty,pos,after,g⟩::os) k E ds H :=
 AtL.of (zog i hsz hi ho hl hv hn hx hy) hg rfl fun _ _ ⟨s',h',hv,hH⟩ => by subst hv; subst hH; exact hk s' h'
end
end Go.Proofs.YtjmnjkoekabioaaGreatDoor
