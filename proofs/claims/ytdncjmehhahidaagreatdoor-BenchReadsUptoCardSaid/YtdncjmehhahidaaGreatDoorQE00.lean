/- The parts of the proof that this law needs, in the order of their texts: the logic of walks, the plain laws, the walks. -/
import Derived.Test.YtdncjmehhahidaaGreatDoorChecked
import Derived.WalkKit
import Derived.SevenTiedAt
import Derived.Calls
import Derived.Below
import Derived.Deep.Draws
import Derived.IntWalk
import Derived.WalkSpells
import Derived.WalkLawsBesides
import Derived.Laws.Cells
import Derived.Laws.CopyRow
import Derived.Laws.AppendOwn
import Derived.Laws.Append
import Derived.Laws.IdiomStrings
import Derived.Laws.BytesArg
import Derived.Laws.MakeOwn
import Derived.Orders
import Derived.ChangeArms
import Derived.ChangeShapes
import Derived.WideShapes
import Derived.ChangeMaps5
import Derived.Deep.Slices
import Derived.RowKit
import Derived.SizedLaws
import Derived.HandedShaped
import Derived.Shelf.Vars
import Derived.MakeChecks
import Derived.Test.YtdncjmehhahidaaGreatDoorRows
import Derived.Test.YtdncjmehhahidaaGreatDoorCards
import Derived.LaidMore
import Derived.LaidOnce
import Derived.Lay
import Derived.Stop.Joined
import Derived.ProofKit
import Derived.OpenShut
import Derived.ShutString
import Derived.ChangeOld
import Derived.Shaped
import Derived.JoinedCond
import Derived.LaidLaws
import GoSem.ClaimGoes
import Derived.Test.YtdncjmehhahidaaGreatDoorProg
import Derived.Lib.Bytealg
import Derived.Lib.DecodeN
import Derived.Lib.Builder
import Derived.Lib.UnsafeStr
import Derived.Laws.Sem
import Derived.Laws.StructEq
import Derived.ChangeKeysEq
import Derived.Laws.Externs
import Derived.Lib.Join
import Derived.Shelf.Strings.Builder1
import Derived.Shelf.Strings.Builder2
import Derived.Shelf.Strings.OnBuilder
import Derived.Shelf.Small.Utf8
import Derived.Shelf.Small.Strs
import Derived.Shelf.Strconv.Itoa0
import Derived.Shelf.Strconv.Itoa1
import Derived.Shelf.LaysM
import Derived.Shelf.Strconv.Itoa2
import Derived.Shelf.Strconv.Itoa3
import Derived.Shelf.Strings.Search1
import Derived.Shelf.Strings.Search2
import Derived.Shelf.Strings.Search3
import Derived.Shelf.Strings.Cut
import Derived.Shelf.Strings.Count
import Derived.Shelf.Strings.Shaped
import Derived.Shelf.Strings.Split
import Derived.Shelf.Strings.SplitShaped
import Derived.Shelf.Strings.Runes
import Derived.Shelf.Strings.AsciiSet
import Derived.Shelf.Bits.Mul64
import Derived.Shelf.Unicode.DecodeSlow
import Derived.Lib.LaidTab
import Derived.Lib.ItoaNum
import Derived.Lib.ItoaLen
import Derived.Lib.Split
import Derived.Lib.Index
import Derived.Lib.LaidU8
namespace Go.Proofs.YtdncjmehhahidaaGreatDoor
set_option maxHeartbeats 400000
open Go.RowKit (Below)
set_option linter.unusedVariables false
set_option linter.unusedSimpArgs false
open Go.WideShapes Go.ChangeShapes
set_option maxRecDepth 100000
theorem seat_main:Tryz.prog.mainIs=some ((true, "0407d82ba0e12436fa12fcec87ac83b18c854b01f82920dc8001d9f9f3be07b0").1,(true, "0407d82ba0e12436fa12fcec87ac83b18c854b01f82920dc8001d9f9f3be07b0").2.toList):=by kernel_rfl
theorem seat_looks:true=Tryz.prog.looks []:=by kernel_rfl
abbrev Env:=List (Nat×Value)
def Env.get:Env→Nat→Option Value
 | [],_ => none
 | p::E,t => match Nat.beq p.1 t with
  | true => some p.2
  | false => Env.get E t
def ev (E:Env):Operand→Option Value
 | .tmp t => Env.get E t
 | .const v => some v
 | .global g => some (.pointer (some ⟨g,0,none⟩))
 | .func f => some (.func (.func f) #[] #[])
def evA (a:Array Value):Operand→Value
 | .tmp t => a.getD t undef
 | .const v => v
 | .global g => .pointer (some ⟨g,0,none⟩)
 | .func f => .func (.func f) #[] #[]
structure Agree (n:Nat) (a:Array Value) (E:Env):Prop where
  size:a.size=n
  get:∀ t v,Env.get E t=some v→a.getD t undef=v
def Sub:Env→Env→Prop
 | [],_ => True
 | (t,v)::L,E => Env.get E t=some v∧Sub L E
def putA (a:Array Value):Option Tmp→Value→Array Value
 | some d,v => a.setIfInBounds d v
 | none,_ => a
def putE (E:Env):Option Tmp→Value→Env
 | some d,v => (d,v)::E
 | none,_ => E
def dstOk (n:Nat):Option Tmp→Bool
 | some d => Nat.blt d n
 | none => true
theorem zbS {d n:Nat}(h:Nat.blt d n=true):d < n:=Nat.le_of_ble_eq_true h
theorem zau {d t:Nat}(h:d≠t):Nat.beq d t=false:=by
 cases hb:Nat.beq d t with
 | false => rfl
 | true => exact absurd (Nat.eq_of_beq_eq_true hb) h
theorem Agree.put {n:Nat}{a:Array Value}{E:Env}(h:Agree n a E) {d:Option Tmp}(hd:dstOk n d=true) (v:Value):Agree n (putA a d v) (putE E d v):=by
 cases d with
 | none => exact h
 | some d =>
  have hlt:d < n:=zbS hd
  refine ⟨by simp [putA,h.size],fun t u hu => ?_⟩
  simp only [putE,Env.get] at hu
  by_cases e:d=t
  ·subst e
   simp at hu
   subst hu
   simp [putA,Array.getD_eq_getD_getElem?,h.size,hlt]
  ·have:Nat.beq d t=false:=zau e
   rw [this] at hu
   have:=h.get t u hu
   rw [← this]
   simp only [putA,Array.getD_eq_getD_getElem?]
   rw [Array.getElem?_setIfInBounds,if_neg e]
theorem Agree.ev {n:Nat}{a:Array Value}{E:Env}(h:Agree n a E) {x:Operand}{v:Value}(hx:ev E x=some v):evA a x=v:=by
 cases x with
 | tmp t => exact h.get t v hx
 | const u => exact Option.some.inj hx
 | global g => exact Option.some.inj hx
 | func f => exact Option.some.inj hx
theorem Agree.sub {n:Nat}{a:Array Value}{L E:Env}(h:Agree n a E) (hs:Sub L E):Agree n a L:=by
 refine ⟨h.size,?_⟩
 induction L with
 | nil => intro t v hv; simp [Env.get] at hv
 | cons p L ih =>
  obtain ⟨t0,v0⟩:=p
  obtain ⟨h1,h2⟩:=hs
  intro t v hv
  simp only [Env.get] at hv
  by_cases e:t0=t
  ·subst e
   simp at hv
   subst hv
   exact h.get t0 v0 h1
  ·have:Nat.beq t0 t=false:=zau e
   rw [this] at hv
   exact ih h2 t v hv
abbrev Seg:=List (Nat×Obj)
structure Sep (w0:World) (base:Nat) (w:World) (H:List Seg):Prop where
  below:Below base w0 w
  le:base≤w0.heap.size
  mem:∀ p ∈ H.flatten,base≤p.1∧w.heap[p.1]? = some p.2
  nodup:(H.flatten.map (·.1)).Nodup
section
variable {w0:World}{base:Nat}{w w' : World}{H:List Seg}
theorem Sep.start (w:World):Sep w w.heap.size w []:=⟨Below.refl _ _,Nat.le_refl _,by simp,by simp⟩
theorem Sep.base_le (S:Sep w0 base w H):base≤w.heap.size:=Nat.le_trans S.le S.below.size
theorem Sep.same (S:Sep w0 base w H) (h:w'.heap=w.heap) (ho:w'.os=w.os) (ht:w'.tape=w.tape) (hp:w'.output=w.output):Sep w0 base w' H :=
 ⟨⟨ho.trans S.below.os,ht.trans S.below.tape,hp.trans S.below.output,by rw [h]; exact S.below.size,fun k hk => by rw [h]; exact S.below.block k hk⟩,S.le,fun p hp => by rw [h]; exact S.mem p hp,S.nodup⟩
theorem Sep.drawn (S:Sep w0 base w H) (n:Nat):Sep w0 base { w with drawn:=n } H:=S.same rfl rfl rfl rfl
theorem Sep.lt (S:Sep w0 base w H) {p:Nat×Obj}(hp:p ∈ H.flatten):p.1 < w.heap.size:=(Array.getElem?_eq_some_iff.1 (S.mem p hp).2).1
theorem Sep.alloc (S:Sep w0 base w H) (o:Obj):Sep w0 base (w.alloc o) ([(w.heap.size,o)]::H):=by
 refine ⟨S.below.alloc S.base_le o,S.le,?_,?_⟩
 ·intro p hp
  rw [List.flatten_cons,List.mem_append] at hp
  rcases hp with hp | hp
  ·simp only [List.mem_singleton] at hp
   subst hp
   exact ⟨S.base_le,by show (w.heap.push o)[w.heap.size]? = _; simp⟩
  ·refine ⟨(S.mem p hp).1,?_⟩
   rw [Below.heap_alloc w o p.1 (S.lt hp)]
   exact (S.mem p hp).2
 ·rw [List.flatten_cons,List.map_append,List.nodup_append]
  refine ⟨by simp,S.nodup,?_⟩
  intro a ha b hb e
  simp only [List.map_cons,List.map_nil,List.mem_singleton] at ha
  obtain ⟨p,hp,rfl⟩:=List.mem_map.1 hb
  have:=S.lt hp
  omega
theorem Sep.nil (S:Sep w0 base w H):Sep w0 base w ([]::H):=⟨S.below,S.le,by simpa using S.mem,by simpa using S.nodup⟩
theorem zcC {H:List Seg}{i:Nat}{s' : Seg}{p:Nat×Obj}(hp:p ∈ (H.set i s').flatten):p ∈ s'∨(∃ j,j≠i∧∃ r,H[j]? = some r∧p ∈ r):=by
 rw [List.mem_flatten] at hp
 obtain ⟨r,hr,hp⟩:=hp
 obtain ⟨j,hj⟩:=List.mem_iff_getElem?.1 hr
 rw [List.getElem?_set] at hj
 split at hj
 ·rename_i e
  split at hj
  ·cases hj; exact .inl hp
  ·cases hj
 ·rename_i e
  exact .inr ⟨j,fun x => e x.symm,r,hj,hp⟩
end
theorem keys_set {s:Seg}{j:Nat}{b:Nat}{o o' : Obj}(hj:s[j]? = some (b,o)):(s.set j (b,o')).map (·.1)=s.map (·.1):=by
 apply List.ext_getElem?
 intro i
 rw [List.getElem?_map,List.getElem?_map,List.getElem?_set]
 split
 ·rename_i e
  subst e
  have hlt:=(List.getElem?_eq_some_iff.1 hj).1
  rw [if_pos hlt,hj]
  rfl
 ·rfl
theorem zfQ {H:List Seg}{i:Nat}{s s' : Seg}(hi:H[i]? = some s) (hk:s'.map (·.1)=s.map (·.1)):(H.set i s').flatten.map (·.1)=H.flatten.map (·.1):=by
 rw [List.map_flatten,List.map_flatten]
 congr 1
 apply List.ext_getElem?
 intro j
 rw [List.getElem?_map,List.getElem?_map,List.getElem?_set]
 split
 ·rename_i e
  subst e
  have hlt:=(List.getElem?_eq_some_iff.1 hi).1
  rw [if_pos hlt,hi]
  simp [hk]
 ·rfl
theorem zck {H:List Seg}(hn:(H.flatten.map (·.1)).Nodup) {i j:Nat}{s:Seg}{b:Nat}{o:Obj}(hi:H[i]? = some s) (hj:s[j]? = some (b,o)) {i' : Nat}{s' : Seg}{o' : Obj}
  (hi' : H[i']? = some s') (hm:(b,o') ∈ s'):i' = i∧(∀ j',s'[j']? = some (b,o')→j' = j):=by
 induction H generalizing i i' with
 | nil => simp at hi
 | cons t H ih =>
  rw [List.flatten_cons,List.map_append,List.nodup_append] at hn
  obtain ⟨n1,n2,n3⟩:=hn
  have memt:∀ {k:Nat}{r:Seg}{x:Obj},H[k]? = some r→(b,x) ∈ r→b ∈ H.flatten.map (·.1):=fun hk hx => List.mem_map.2 ⟨_,List.mem_flatten.2 ⟨_,List.mem_iff_getElem?.2 ⟨_,hk⟩,hx⟩,rfl⟩
  have hmj:(b,o) ∈ s:=List.mem_iff_getElem?.2 ⟨j,hj⟩
  cases i with
  | zero =>
   cases i' with
   | zero =>
    simp only [List.getElem?_cons_zero,Option.some.injEq] at hi hi'
    subst hi; subst hi'
    refine ⟨rfl,fun j' hj' => ?_⟩
    have l1:=(List.getElem?_eq_some_iff.1 hj).1
    have l2:=(List.getElem?_eq_some_iff.1 hj').1
    have e1:(t.map (·.1))[j]? = some b:=by rw [List.getElem?_map,hj]; rfl
    have e2:(t.map (·.1))[j']? = some b:=by rw [List.getElem?_map,hj']; rfl
    obtain ⟨l1,g1⟩:=List.getElem?_eq_some_iff.1 e1
    obtain ⟨l2,g2⟩:=List.getElem?_eq_some_iff.1 e2
    have:=List.pairwise_iff_getElem.1 n1
    rcases Nat.lt_trichotomy j' j with h | h | h
    ·exact absurd (g2.trans g1.symm) (this j' j l2 l1 h)
    ·exact h
    ·exact absurd (g1.trans g2.symm) (this j j' l1 l2 h)
   | succ i' =>
    simp only [List.getElem?_cons_zero,Option.some.injEq,List.getElem?_cons_succ] at hi hi'
    subst hi
    exact absurd rfl (n3 b (List.mem_map.2 ⟨_,hmj,rfl⟩) b (memt hi' hm))
  | succ i =>
   cases i' with
   | zero =>
    simp only [List.getElem?_cons_zero,Option.some.injEq,List.getElem?_cons_succ] at hi hi'
    subst hi'
    exact absurd rfl (n3 b (List.mem_map.2 ⟨_,hm,rfl⟩) b (memt hi hmj))
   | succ i' =>
    simp only [List.getElem?_cons_succ] at hi hi'
    have:=ih n2 hi hi'
    exact ⟨by rw [this.1],this.2⟩
section
variable {w0:World}{base:Nat}{w w' : World}{H:List Seg}
theorem Sep.write (S:Sep w0 base w H) {i j:Nat}{s:Seg}{b:Nat}{o:Obj}(hi:H[i]? = some s) (hj:s[j]? = some (b,o)) (o' : Obj)
  (ho:w'.os=w.os) (ht:w'.tape=w.tape) (hp:w'.output=w.output) (hs:w'.heap.size=w.heap.size) (hb:w'.heap[b]? = some o') (hk:∀ k,k≠b→w'.heap[k]? = w.heap[k]?) :
  Sep w0 base w' (H.set i (s.set j (b,o'))):=by
 have hmem:(b,o) ∈ H.flatten:=List.mem_flatten.2 ⟨s,List.mem_iff_getElem?.2 ⟨i,hi⟩,List.mem_iff_getElem?.2 ⟨j,hj⟩⟩
 have hbase:=(S.mem _ hmem).1
 refine ⟨S.below.trans ⟨ho,ht,hp,by omega,fun k hk' => hk k (by intro e; subst e; have:base≤k:=hbase; omega)⟩,S.le,?_,?_⟩
 ·intro p hp
  rcases zcC hp with h | ⟨i',hne,r,hr,hpr⟩
  ·obtain ⟨j',hj'⟩:=List.mem_iff_getElem?.1 h
   rw [List.getElem?_set] at hj'
   split at hj'
   ·rename_i e
    split at hj'
    ·cases hj'; exact ⟨hbase,hb⟩
    ·cases hj'
   ·rename_i e
    have hps:p ∈ s:=List.mem_iff_getElem?.2 ⟨j',hj'⟩
    have hpm:p ∈ H.flatten:=List.mem_flatten.2 ⟨s,List.mem_iff_getElem?.2 ⟨i,hi⟩,hps⟩
    refine ⟨(S.mem p hpm).1,?_⟩
    rw [hk p.1 ?_]
    ·exact (S.mem p hpm).2
    ·intro eb
     obtain ⟨p1,p2⟩:=p
     simp only at eb
     subst eb
     have:=(zck S.nodup hi hj hi hps).2 j' hj'
     exact e this.symm
  ·have hpm:p ∈ H.flatten:=List.mem_flatten.2 ⟨r,List.mem_iff_getElem?.2 ⟨i',hr⟩,hpr⟩
   refine ⟨(S.mem p hpm).1,?_⟩
   rw [hk p.1 ?_]
   ·exact (S.mem p hpm).2
   ·intro eb
    obtain ⟨p1,p2⟩:=p
    simp only at eb
    subst eb
    exact hne (zck S.nodup hi hj hr hpr).1
 ·rw [zfQ hi (keys_set hj)]
  exact S.nodup
def pickSegs (H:List Seg):List Nat→Nat→List Seg
 | [],m => H.drop m
 | i::is,m => (H[i]?).getD []::pickSegs H is m
def pickOk:List Nat→Nat→Bool
 | [],_ => true
 | i::is,m => Nat.blt i m && is.all (fun j => !Nat.beq i j) && pickOk is m
theorem zcy {H:List Seg}{is:List Nat}{m:Nat}{t:Seg}(h:t ∈ pickSegs H is m):t=[]∨(∃ i,i ∈ is∧H[i]? = some t)∨(∃ i,m≤i∧H[i]? = some t):=by
 induction is with
 | nil =>
  obtain ⟨i,hi⟩:=List.mem_iff_getElem?.1 h
  rw [pickSegs,List.getElem?_drop] at hi
  exact .inr (.inr ⟨_,Nat.le_add_right _ _,hi⟩)
 | cons i is ih =>
  rw [pickSegs,List.mem_cons] at h
  rcases h with rfl | h
  ·cases hi:H[i]? with
   | none => exact .inl rfl
   | some t => exact .inr (.inl ⟨i,by simp,by simpa using hi⟩)
  ·rcases ih h with h | ⟨j,hj,h⟩ | h
   ·exact .inl h
   ·exact .inr (.inl ⟨j,by simp [hj],h⟩)
   ·exact .inr (.inr h)
theorem zbq {H:List Seg}:(H.flatten.map (·.1)).Nodup↔(∀ s ∈ H,(s.map (·.1)).Nodup)∧H.Pairwise (fun s t => ∀ x ∈ s.map (·.1),∀ y ∈ t.map (·.1),x≠y):=by
 induction H with
 | nil => simp
 | cons s H ih =>
  rw [List.flatten_cons,List.map_append,List.nodup_append,ih,List.pairwise_cons]
  constructor
  ·rintro ⟨h1,⟨h2,h3⟩,h4⟩
   refine ⟨fun t ht => ?_,fun t ht x hx y hy => ?_,h3⟩
   ·rcases List.mem_cons.1 ht with rfl | ht
    ·exact h1
    ·exact h2 t ht
   ·refine h4 x hx y ?_
    obtain ⟨p,hp,rfl⟩:=List.mem_map.1 hy
    exact List.mem_map.2 ⟨p,List.mem_flatten.2 ⟨t,ht,hp⟩,rfl⟩
  ·rintro ⟨h1,h2,h3⟩
   refine ⟨h1 s (by simp),⟨fun t ht => h1 t (by simp [ht]),h3⟩,fun x hx y hy => ?_⟩
   obtain ⟨p,hp,rfl⟩:=List.mem_map.1 hy
   obtain ⟨t,ht,hp⟩:=List.mem_flatten.1 hp
   exact h2 t ht x hx _ (List.mem_map.2 ⟨p,hp,rfl⟩)
theorem apart_of {H:List Seg}(h:H.Pairwise (fun s t => ∀ x ∈ s.map (·.1),∀ y ∈ t.map (·.1),x≠y)) {i j:Nat}(hne:i≠j) {s t:Seg}(hi:H[i]? = some s) (hj:H[j]? = some t) :
  ∀ x ∈ s.map (·.1),∀ y ∈ t.map (·.1),x≠y:=by
 rw [List.pairwise_iff_getElem] at h
 obtain ⟨l1,e1⟩:=List.getElem?_eq_some_iff.1 hi
 obtain ⟨l2,e2⟩:=List.getElem?_eq_some_iff.1 hj
 subst e1; subst e2
 rcases Nat.lt_or_ge i j with hlt | hge
 ·exact h i j l1 l2 hlt
 ·intro x hx y hy e
  exact h j i l2 l1 (by omega) y hy x hx e.symm
theorem zdr {H:List Seg}(h:H.Pairwise (fun s t => ∀ x ∈ s.map (·.1),∀ y ∈ t.map (·.1),x≠y)):∀ (is:List Nat) (m:Nat),pickOk is m=true→(pickSegs H is m).Pairwise (fun s t => ∀ x ∈ s.map (·.1),∀ y ∈ t.map (·.1),x≠y)
 | [],m,_ => List.Pairwise.sublist (List.drop_sublist m H) h
 | i::is,m,hok => by
  simp only [pickOk,Bool.and_eq_true] at hok
  obtain ⟨⟨hlt,hall⟩,hok⟩:=hok
  have hlt:=zbS hlt
  rw [pickSegs,List.pairwise_cons]
  refine ⟨fun t ht => ?_,zdr h is m hok⟩
  cases hi:H[i]? with
  | none => simp
  | some s =>
   simp only [Option.getD_some]
   rcases zcy ht with rfl | ⟨j,hj,ht⟩ | ⟨j,hj,ht⟩
   ·simp
   ·refine apart_of h ?_ hi ht
    have:=List.all_eq_true.1 hall j hj
    rintro rfl
    simp at this
   ·exact apart_of h (by omega) hi ht
theorem Sep.pick (S:Sep w0 base w H) (is:List Nat) (m:Nat) (hok:pickOk is m=true):Sep w0 base w (pickSegs H is m):=by
 obtain ⟨h1,h2⟩:=zbq.1 S.nodup
 refine ⟨S.below,S.le,fun p hp => ?_,zbq.2 ⟨fun t ht => ?_,zdr h2 is m hok⟩⟩
 ·obtain ⟨t,ht,hp⟩:=List.mem_flatten.1 hp
  refine S.mem p ?_
  rcases zcy ht with rfl | ⟨j,_,ht⟩ | ⟨j,_,ht⟩
  ·simp at hp
  ·exact List.mem_flatten.2 ⟨t,List.mem_iff_getElem?.2 ⟨j,ht⟩,hp⟩
  ·exact List.mem_flatten.2 ⟨t,List.mem_iff_getElem?.2 ⟨j,ht⟩,hp⟩
 ·rcases zcy ht with rfl | ⟨j,_,ht⟩ | ⟨j,_,ht⟩
  ·simp
  ·exact h1 t (List.mem_iff_getElem?.2 ⟨j,ht⟩)
  ·exact h1 t (List.mem_iff_getElem?.2 ⟨j,ht⟩)
end
structure Ctx where
  fn:FuncId
  kind:CallKind
  round:Option Nat
def Ctx.fr (c:Ctx) (a:Array Value) (ds:List Deferred) (k:List Item):Frame :=
 { fn:=c.fn,tmps:=a,todo:=k,defers:=ds,mode:=.run,kind:=c.kind,roundOf:=c.round }
def Ev (P:Program) (m:Machine) (G:Machine→Prop):Prop:=∃ m',Steps P m m'∧G m'
theorem Ev.step {P:Program}{m m' : Machine}{G:Machine→Prop}(h:step P m = .next m') (h' : Ev P m' G):Ev P m G :=
 let ⟨m2,s,g⟩:=h'; ⟨m2,.head h s,g⟩
theorem Ev.steps {P:Program}{m m' : Machine}{G:Machine→Prop}(h:Steps P m m') (h' : Ev P m' G):Ev P m G :=
 let ⟨m2,s,g⟩:=h'; ⟨m2,h.trans s,g⟩
structure Pt where
  P:Program
  c:Ctx
  n:Nat
  cs:List Frame
  G:Machine→Prop
  w0:World
  base:Nat
def At (X:Pt) (k:List Item) (E:Env) (ds:List Deferred) (H:List Seg):Prop :=
 ∀ a w,Agree X.n a E→Sep X.w0 X.base w H→Ev X.P (lone (X.c.fr a ds k) X.cs w) X.G
def AtL (X:Pt) (ops:Array Oper) (os:List Oper) (k:List Item) (E:Env) (ds:List Deferred) (H:List Seg):Prop :=
 ∀ is:List Nat,is.map (fun i => ops[i]?)=os.map some→At X (.inRegion ops is::k) E ds H
section steps
variable {P:Program}{c:Ctx}{a:Array Value}{ds:List Deferred}{k:List Item}{cs:List Frame}{w:World}
theorem fr_eval (x:Operand):(c.fr a ds k).eval x=evA a x:=by cases x <;> rfl
theorem zd7 : (c.fr a ds k).eval=evA a:=funext fr_eval
theorem go_skip:step P (lone (c.fr a ds (.code .skip::k)) cs w) = .next (lone (c.fr a ds k) cs w) :=
 step_lone_go (by simp [stepG,stepG.exec,Ctx.fr])
theorem go_label {l:Nat}:step P (lone (c.fr a ds (.code (.label l)::k)) cs w) = .next (lone (c.fr a ds k) cs w) :=
 step_lone_go (by simp [stepG,stepG.exec,Ctx.fr])
theorem zfe {id:Nat}:step P (lone (c.fr a ds (.inBlock id::k)) cs w) = .next (lone (c.fr a ds k) cs w) :=
 step_lone_go (by simp [stepG,stepG.exec,Ctx.fr])
theorem zfd {b:Code}:step P (lone (c.fr a ds (.inScope b::k)) cs w) = .next (lone (c.fr a ds k) cs w) :=
 step_lone_go (by simp [stepG,stepG.exec,Ctx.fr])
theorem go_seq {x y:Code}:step P (lone (c.fr a ds (.code (.seq x y)::k)) cs w) = .next (lone (c.fr a ds (.code x::.code y::k)) cs w) :=
 step_lone_go (by simp [stepG,stepG.exec,Ctx.fr])
theorem zcA {o:Operand}{x y:Code}{t:Bool}(h:evA a o = .bool t) :
  step P (lone (c.fr a ds (.code (.cond o x y)::k)) cs w) = .next (lone (c.fr a ds (.code (if t then x else y)::k)) cs w) :=
 step_lone_go (by
  have:=fr_eval (c:=c) (a:=a) (ds:=ds) (k:=.code (.cond o x y)::k) o
  simp only [Ctx.fr] at this
  simp [stepG,stepG.exec,Ctx.fr,this,h])
theorem go_block {id:Nat}{b:Code}:step P (lone (c.fr a ds (.code (.block id b)::k)) cs w) = .next (lone (c.fr a ds (.code b::.inBlock id::k)) cs w) :=
 step_lone_go (by simp [stepG,stepG.exec,Ctx.fr])
theorem go_scope {b:Code}:step P (lone (c.fr a ds (.code (.scope b)::k)) cs w) = .next (lone (c.fr a ds (.code b::.inScope b::k)) cs w) :=
 step_lone_go (by simp [stepG,stepG.exec,Ctx.fr])
theorem go_loop {b:Code}:step P (lone (c.fr a ds (.code (.loop b)::k)) cs w) = .next (lone (c.fr a ds (.code b::.inLoop b::k)) cs w) :=
 step_lone_go (by simp [stepG,stepG.exec,Ctx.fr])
theorem zeB {b:Code}:step P (lone (c.fr a ds (.inLoop b::k)) cs w) = .next (lone (c.fr a ds (.code b::.inLoop b::k)) cs w) :=
 step_lone_go (by simp [stepG,stepG.exec,Ctx.fr])
theorem go_exit {id:Nat}{k' : List Item}(h:exitTo id k=some k'):step P (lone (c.fr a ds (.code (.exit id)::k)) cs w) = .next (lone (c.fr a ds k') cs w) :=
 step_lone_go (by simp [stepG,stepG.exec,Ctx.fr,h])
theorem go_goto {l:Nat}{k' : List Item}(h:gotoIn l k=some k'):step P (lone (c.fr a ds (.code (.goto l)::k)) cs w) = .next (lone (c.fr a ds k') cs w) :=
 step_lone_go (by simp [stepG,stepG.exec,Ctx.fr,h])
theorem go_ret (hr:c.round=none):step P (lone (c.fr a ds (.code .ret::k)) cs w) = .next (lone { c.fr a ds (.code .ret::k) with mode:=.returning } cs w) :=
 step_lone_go (by simp [stepG,stepG.exec,Ctx.fr,hr])
theorem go_end (hr:c.round=none):step P (lone (c.fr a ds []) cs w) = .next (lone { c.fr a ds [] with mode:=.returning } cs w) :=
 step_lone_go (by simp [stepG,stepG.exec,Ctx.fr,hr])
theorem go_region {id:Nat}{ops:Array Oper}:step P (lone (c.fr a ds (.code (.region id ops false)::k)) cs w) = .next (lone (c.fr a ds (.inRegion ops (List.range ops.size)::k)) cs w) :=
 step_lone_go (by simp [stepG,stepG.exec,Ctx.fr])
theorem zc2 {id:Nat}{ops:Array Oper} :
  step P (lone (c.fr a ds (.code (.region id ops true)::k)) cs w) =
   .next (lone (c.fr a ds (.inRegion ops (Region.schedule (P.follows .mixedOrders) ops (w.tape w.drawn (.order c.fn id)))::k)) cs { w with drawn:=w.drawn + 1 }) :=
 step_lone_go (by simp [stepG,stepG.exec,Ctx.fr,choose,Sem.run,Question.forced,Question.cut])
theorem za4 {ops:Array Oper}:step P (lone (c.fr a ds (.inRegion ops []::k)) cs w) = .next (lone (c.fr a ds k) cs w) :=
 step_lone_go (by simp [stepG,stepG.exec,Ctx.fr])
def Op.isDefer:Op→Bool
 | .defer _ => true
 | _ => false
theorem za3 {ops:Array Oper}{i:Nat}{is:List Nat}{o:Oper}(ho:ops[i]? = some o) (hw:Region.wanted o (yielded ops a)=true) (hnd:Op.isDefer o.op=false∨c.round=none) :
  stepG P true { frame:=c.fr a ds (.inRegion ops (i::is)::k),callers:=cs,status:=.running,dying:=none } w =
   stepG.apply P true (c.fr a ds (.inRegion ops (i::is)::k)) cs none (execOp (evA a) o) w:=by
 have he:=zd7 (c:=c) (a:=a) (ds:=ds) (k:=.inRegion ops (i::is)::k)
 simp only [Ctx.fr] at he
 simp only [stepG,stepG.exec,stepG.oper,Frame.oper?,Ctx.fr,ho,hw,he,Option.map_some,Option.getD_some,if_true]
 split
 ·rename_i l cc hl hd
  rcases hnd with h | h
  ·rw [hd] at h; cases h
  ·rw [h] at hl; cases hl
 ·rfl
theorem zcY {ops:Array Oper}{i:Nat}{is:List Nat}{o:Oper}(ho:ops[i]? = some o) (hw:Region.wanted o (yielded ops a)=false) :
  step P (lone (c.fr a ds (.inRegion ops (i::is)::k)) cs w) = .next (lone (c.fr (putA a o.dst undef) ds (.inRegion ops is::k)) cs w):=by
 refine step_lone_go ?_
 have e:(c.fr a ds (.inRegion ops (i::is)::k)).finish undef=c.fr (putA a o.dst undef) ds (.inRegion ops is::k):=by
  cases hd:o.dst <;> simp [Frame.finish,Ctx.fr,ho,hd,putA]
 rw [← e]
 simp [stepG,stepG.exec,Ctx.fr,ho,hw]
theorem zax {ops:Array Oper}{i:Nat}{is:List Nat}{o:Oper}(ho:ops[i]? = some o) (v:Value) :
  (c.fr a ds (.inRegion ops (i::is)::k)).finish v=c.fr (putA a o.dst v) ds (.inRegion ops is::k):=by
 cases hd:o.dst <;> simp [Frame.finish,Ctx.fr,ho,hd,putA]
theorem zez {ops:Array Oper}{i:Nat}{is:List Nat}{o:Oper}{v:Value}{w' : World}(ho:ops[i]? = some o) (hw:Region.wanted o (yielded ops a)=true) (hnd:Op.isDefer o.op=false∨c.round=none)
  (hr:(execOp (evA a) o).run P w = .ok (.value v) w') :
  step P (lone (c.fr a ds (.inRegion ops (i::is)::k)) cs w) = .next (lone (c.fr (putA a o.dst v) ds (.inRegion ops is::k)) cs w'):=by
 refine step_lone_go ?_
 rw [za3 ho hw hnd,← zax ho]
 simp [stepG.apply,hr]
theorem go_op_unit {ops:Array Oper}{i:Nat}{is:List Nat}{o:Oper}{w' : World}(ho:ops[i]? = some o) (hw:Region.wanted o (yielded ops a)=true) (hnd:Op.isDefer o.op=false∨c.round=none)
  (hr:(execOp (evA a) o).run P w = .ok .skip w') :
  step P (lone (c.fr a ds (.inRegion ops (i::is)::k)) cs w) = .next (lone (c.fr (putA a o.dst undef) ds (.inRegion ops is::k)) cs w'):=by
 refine step_lone_go ?_
 rw [za3 ho hw hnd,← zax ho]
 simp [stepG.apply,hr]
theorem zeA {ops:Array Oper}{i:Nat}{is:List Nat}{o:Oper}{d:Deferred}{w' : World}(ho:ops[i]? = some o) (hw:Region.wanted o (yielded ops a)=true) (hnd:Op.isDefer o.op=false∨c.round=none)
  (hr:(execOp (evA a) o).run P w = .ok (.defer d) w') :
  step P (lone (c.fr a ds (.inRegion ops (i::is)::k)) cs w) = .next (lone (c.fr (putA a o.dst undef) (d::ds) (.inRegion ops is::k)) cs w'):=by
 refine step_lone_go ?_
 rw [za3 ho hw hnd]
 have:=zax (c:=c) (a:=a) (ds:=d::ds) (k:=k) (is:=is) ho undef
 rw [← this]
 simp [stepG.apply,hr,Ctx.fr]
theorem zbQ {ops:Array Oper}{i:Nat}{is:List Nat}{o:Oper}{f:FuncId}{args:Array Value}{w' : World}(ho:ops[i]? = some o) (hw:Region.wanted o (yielded ops a)=true) (hnd:Op.isDefer o.op=false∨c.round=none)
  (hr:(execOp (evA a) o).run P w = .ok (.enter f args) w') :
  step P (lone (c.fr a ds (.inRegion ops (i::is)::k)) cs w) = .next (lone (Frame.enter P f args .normal) (c.fr a ds (.inRegion ops (i::is)::k)::cs) w'):=by
 refine step_lone_go ?_
 rw [za3 ho hw hnd]
 simp [stepG.apply,hr,Ctx.fr]
end steps
def SCalls (P:Program) (f:FuncId) (args:List Value) (w0:World) (base:Nat) (H:List Seg) (R:Value→List Seg→Prop):Prop :=
 ∀ w,Sep w0 base w H→Calls P f args.toArray w fun e w' => ∃ v H',e = .returned v∧R v H'∧Sep w0 base w' H'
theorem SCalls.mono {P:Program}{f:FuncId}{args:List Value}{w0:World}{base:Nat}{H:List Seg}{R R' : Value→List Seg→Prop}(h:SCalls P f args w0 base H R) (hr:∀ v H',R v H'→R' v H'):SCalls P f args w0 base H R' :=
 fun w S => (h w S).mono fun _ _ ⟨v,H',he,hR,hS⟩ => ⟨v,H',he,hr _ _ hR,hS⟩
section rules
variable {X:Pt}{k:List Item}{E:Env}{ds:List Deferred}{H:List Seg}{ops:Array Oper}{os:List Oper}
theorem At.mono {E' : Env}(hs:Sub E' E) (h:At X k E' ds H):At X k E ds H:=fun a w ha S => h a w (ha.sub hs) S
theorem AtL.mono {E' : Env}(hs:Sub E' E) (h:AtL X ops os k E' ds H):AtL X ops os k E ds H:=fun is hi a w ha S => h is hi a w (ha.sub hs) S
theorem At.pick {H' : List Seg}(is:List Nat) (m:Nat) (hok:pickOk is m=true) (hH:pickSegs H is m=H') (h:At X k E ds H'):At X k E ds H:=fun a w ha S => h a w ha (hH ▸ S.pick is m hok)
theorem AtL.pick {H' : List Seg}(is:List Nat) (m:Nat) (hok:pickOk is m=true) (hH:pickSegs H is m=H') (h:AtL X ops os k E ds H'):AtL X ops os k E ds H:=fun is' hi a w ha S => h is' hi a w ha (hH ▸ S.pick is m hok)
theorem At.nil (h:At X k E ds ([]::H)):At X k E ds H:=fun a w ha S => h a w ha S.nil
theorem AtL.nil (h:AtL X ops os k E ds ([]::H)):AtL X ops os k E ds H:=fun is hi a w ha S => h is hi a w ha S.nil
theorem At.skip (h:At X k E ds H):At X (.code .skip::k) E ds H:=fun a w ha S => .step go_skip (h a w ha S)
theorem At.label {l:Nat}(h:At X k E ds H):At X (.code (.label l)::k) E ds H:=fun a w ha S => .step go_label (h a w ha S)
theorem At.inBlock {id:Nat}(h:At X k E ds H):At X (.inBlock id::k) E ds H:=fun a w ha S => .step zfe (h a w ha S)
theorem At.inScope {b:Code}(h:At X k E ds H):At X (.inScope b::k) E ds H:=fun a w ha S => .step zfd (h a w ha S)
theorem At.seq {x y:Code}(h:At X (.code x::.code y::k) E ds H):At X (.code (.seq x y)::k) E ds H:=fun a w ha S => .step go_seq (h a w ha S)
theorem At.block {id:Nat}{b:Code}(h:At X (.code b::.inBlock id::k) E ds H):At X (.code (.block id b)::k) E ds H:=fun a w ha S => .step go_block (h a w ha S)
theorem At.scope {b:Code}(h:At X (.code b::.inScope b::k) E ds H):At X (.code (.scope b)::k) E ds H:=fun a w ha S => .step go_scope (h a w ha S)
theorem At.exit {id:Nat}{k' : List Item}(he:exitTo id k=some k') (h:At X k' E ds H):At X (.code (.exit id)::k) E ds H:=fun a w ha S => .step (go_exit he) (h a w ha S)
theorem At.goto {l:Nat}{k' : List Item}(he:gotoIn l k=some k') (h:At X k' E ds H):At X (.code (.goto l)::k) E ds H:=fun a w ha S => .step (go_goto he) (h a w ha S)
theorem At.condT {o:Operand}{x y:Code}(hc:ev E o=some (.bool true)) (h:At X (.code x::k) E ds H):At X (.code (.cond o x y)::k) E ds H :=
 fun a w ha S => .step (zcA (ha.ev hc)) (h a w ha S)
theorem At.condF {o:Operand}{x y:Code}(hc:ev E o=some (.bool false)) (h:At X (.code y::k) E ds H):At X (.code (.cond o x y)::k) E ds H :=
 fun a w ha S => .step (zcA (ha.ev hc)) (h a w ha S)
theorem At.cond {o:Operand}{x y:Code}{t:Bool}(hc:ev E o=some (.bool t)) (ht:t=true→At X (.code x::k) E ds H) (hf:t=false→At X (.code y::k) E ds H):At X (.code (.cond o x y)::k) E ds H :=
 fun a w ha S => by
  cases t with
  | true => exact .step (zcA (ha.ev hc)) (ht rfl a w ha S)
  | false => exact .step (zcA (ha.ev hc)) (hf rfl a w ha S)
theorem At.condIs {o:Operand}{x y:Code}{t:Bool}(b:Bool) (hc:ev E o=some (.bool t)) (hb:t=b) (h:At X (.code (match b with | true => x | false => y)::k) E ds H):At X (.code (.cond o x y)::k) E ds H :=
 fun a w ha S => by
  subst hb
  cases t with
  | true => exact .step (zcA (ha.ev hc)) (h a w ha S)
  | false => exact .step (zcA (ha.ev hc)) (h a w ha S)
theorem At.region {id:Nat}{rops:Array Oper}(h:AtL X rops rops.toList k E ds H):At X (.code (.region id rops false)::k) E ds H :=
 fun a w ha S => .step go_region (h (List.range rops.size) (by
  apply List.ext_getElem
  ·simp
  ·intro i h1 h2
   simp at h1 h2 ⊢) a w ha S)
theorem AtL.done (h:At X k E ds H):AtL X ops [] k E ds H:=fun is hi a w ha S => by
 have:is=[]:=by simpa using hi
 subst this
 exact .step za4 (h a w ha S)
theorem At.loop {b:Code}{ι:Type}(Ei:ι→Env) (Hi:ι→List Seg) (I:ι→Prop) (μ:ι→Nat) (x0:ι) (h0:I x0) (hE:Sub (Ei x0) E) (hH:Hi x0=H)
  (hr:∀ x,I x→(∀ x',I x'→μ x' < μ x→∀ E',Sub (Ei x') E'→At X (.inLoop b::k) E' ds (Hi x'))→At X (.code b::.inLoop b::k) (Ei x) ds (Hi x)):At X (.code (.loop b)::k) E ds H:=by
 have key:∀ n x,μ x=n→I x→At X (.code b::.inLoop b::k) (Ei x) ds (Hi x):=by
  intro n
  induction n using Nat.strongRecOn with
  | _ n ih =>
   intro x hx hI
   refine hr x hI fun x' hI' hlt E' hE' => ?_
   exact fun a w ha S => .step zeB (ih (μ x') (hx ▸ hlt) x' rfl hI' a w (ha.sub hE') S)
 subst hH
 exact fun a w ha S => .step go_loop (key _ x0 rfl h0 a w (ha.sub hE) S)
theorem At.loop2 {b:Code}{α β:Type}(Ei:α→β→Env) (Hi:α→β→List Seg) (I:α→β→Prop) (μ:α→β→Nat) (x:α) (y:β) (h0:I x y) (hE:Sub (Ei x y) E) (hH:Hi x y=H)
  (hr:∀ x y,I x y→(∀ x' y',I x' y'→μ x' y' < μ x y→∀ E',Sub (Ei x' y') E'→At X (.inLoop b::k) E' ds (Hi x' y'))→At X (.code b::.inLoop b::k) (Ei x y) ds (Hi x y)):At X (.code (.loop b)::k) E ds H :=
 At.loop (ι:=α×β) (fun p => Ei p.1 p.2) (fun p => Hi p.1 p.2) (fun p => I p.1 p.2) (fun p => μ p.1 p.2) (x,y) h0 hE hH fun p hI ih => hr p.1 p.2 hI fun x' y' => ih (x',y')
theorem At.loop3 {b:Code}{α β γ:Type}(Ei:α→β→γ→Env) (Hi:α→β→γ→List Seg) (I:α→β→γ→Prop) (μ:α→β→γ→Nat) (x:α) (y:β) (z:γ) (h0:I x y z) (hE:Sub (Ei x y z) E) (hH:Hi x y z=H)
  (hr:∀ x y z,I x y z→(∀ x' y' z',I x' y' z'→μ x' y' z' < μ x y z→∀ E',Sub (Ei x' y' z') E'→At X (.inLoop b::k) E' ds (Hi x' y' z'))→At X (.code b::.inLoop b::k) (Ei x y z) ds (Hi x y z)):At X (.code (.loop b)::k) E ds H :=
 At.loop (ι:=α×β×γ) (fun p => Ei p.1 p.2.1 p.2.2) (fun p => Hi p.1 p.2.1 p.2.2) (fun p => I p.1 p.2.1 p.2.2) (fun p => μ p.1 p.2.1 p.2.2) (x,y,z) h0 hE hH fun p hI ih => hr p.1 p.2.1 p.2.2 hI fun x' y' z' => ih (x',y',z')
theorem At.loop5 {b:Code}{α β γ δ ε:Type}(Ei:α→β→γ→δ→ε→Env) (Hi:α→β→γ→δ→ε→List Seg) (I:α→β→γ→δ→ε→Prop) (μ:α→β→γ→δ→ε→Nat) (x:α) (y:β) (z:γ) (u:δ) (v:ε) (h0:I x y z u v) (hE:Sub (Ei x y z u v) E) (hH:Hi x y z u v=H)
  (hr:∀ x y z u v,I x y z u v→(∀ x' y' z' u' v',I x' y' z' u' v'→μ x' y' z' u' v' < μ x y z u v→∀ E',Sub (Ei x' y' z' u' v') E'→At X (.inLoop b::k) E' ds (Hi x' y' z' u' v'))→At X (.code b::.inLoop b::k) (Ei x y z u v) ds (Hi x y z u v)):At X (.code (.loop b)::k) E ds H :=
 At.loop (ι:=α×β×γ×δ×ε) (fun p => Ei p.1 p.2.1 p.2.2.1 p.2.2.2.1 p.2.2.2.2) (fun p => Hi p.1 p.2.1 p.2.2.1 p.2.2.2.1 p.2.2.2.2) (fun p => I p.1 p.2.1 p.2.2.1 p.2.2.2.1 p.2.2.2.2) (fun p => μ p.1 p.2.1 p.2.2.1 p.2.2.2.1 p.2.2.2.2) (x,y,z,u,v) h0 hE hH
  fun p hI ih => hr p.1 p.2.1 p.2.2.1 p.2.2.2.1 p.2.2.2.2 hI fun x' y' z' u' v' => ih (x',y',z',u',v')
theorem At.loop6 {b:Code}{α β γ δ ε ζ:Type}(Ei:α→β→γ→δ→ε→ζ→Env) (Hi:α→β→γ→δ→ε→ζ→List Seg) (I:α→β→γ→δ→ε→ζ→Prop) (μ:α→β→γ→δ→ε→ζ→Nat) (x:α) (y:β) (z:γ) (u:δ) (v:ε) (q:ζ) (h0:I x y z u v q) (hE:Sub (Ei x y z u v q) E) (hH:Hi x y z u v q=H)
  (hr:∀ x y z u v q,I x y z u v q→(∀ x' y' z' u' v' q',I x' y' z' u' v' q'→μ x' y' z' u' v' q' < μ x y z u v q→∀ E',Sub (Ei x' y' z' u' v' q') E'→At X (.inLoop b::k) E' ds (Hi x' y' z' u' v' q'))→At X (.code b::.inLoop b::k) (Ei x y z u v q) ds (Hi x y z u v q)):At X (.code (.loop b)::k) E ds H :=
 At.loop (ι:=α×β×γ×δ×ε×ζ) (fun p => Ei p.1 p.2.1 p.2.2.1 p.2.2.2.1 p.2.2.2.2.1 p.2.2.2.2.2) (fun p => Hi p.1 p.2.1 p.2.2.1 p.2.2.2.1 p.2.2.2.2.1 p.2.2.2.2.2) (fun p => I p.1 p.2.1 p.2.2.1 p.2.2.2.1 p.2.2.2.2.1 p.2.2.2.2.2) (fun p => μ p.1 p.2.1 p.2.2.1 p.2.2.2.1 p.2.2.2.2.1 p.2.2.2.2.2) (x,y,z,u,v,q) h0 hE hH
  fun p hI ih => hr p.1 p.2.1 p.2.2.1 p.2.2.2.1 p.2.2.2.2.1 p.2.2.2.2.2 hI fun x' y' z' u' v' q' => ih (x',y',z',u',v',q')
theorem zaX {b:Bool}(h:(!b)=true):b=false:=by cases b <;> simp_all
theorem zaJ {b:Bool}(h:(!b)=false):b=true:=by cases b <;> simp_all
def Wd (X:Pt) (ops:Array Oper) (E:Env) (g:Option (Nat×Bool)):Prop :=
 g=none∨∃ j want t,g=some (j,want)∧(ops[j]?).bind (·.dst)=some t∧Nat.blt t X.n=true∧Env.get E t=some (.bool want)
theorem zg0 {X:Pt}{ops:Array Oper}{E:Env}:Wd X ops E none:=.inl rfl
theorem zcK {n:Nat}{a:Array Value}{j t:Nat}{b:Bool}(ha:Agree n a E) (hj:(ops[j]?).bind (·.dst)=some t) (ht:Nat.blt t n=true) (hb:Env.get E t=some (.bool b)):yielded ops a j=some b:=by
 have hlt:=zbS ht
 have hv:=ha.get t _ hb
 unfold yielded
 rw [hj]
 have hs:t < a.size:=by rw [ha.size]; exact hlt
 simp only [Option.bind_some,Array.getElem?_eq_getElem hs]
 rw [Array.getD_eq_getD_getElem?,Array.getElem?_eq_getElem hs] at hv
 simp at hv
 rw [hv]
theorem Wd.wanted {o:Oper}(h:Wd X ops E o.guard) {a:Array Value}(ha:Agree X.n a E):Region.wanted o (yielded ops a)=true:=by
 rcases h with h | ⟨j,want,t,hg,hj,ht,hb⟩
 ·simp [Region.wanted,h]
 ·simp [Region.wanted,hg,zcK ha hj ht hb]
def Does (X:Pt) (E:Env) (H:List Seg) (op:Op) (R:Value→List Seg→Prop):Prop :=
 ∀ (dst:Option Tmp) (ty:TypeId) (pos:String) (after:Array Edge) (g:Option (Nat×Bool)) (ops:Array Oper) (i:Nat) (is:List Nat) (k:List Item) (ds:List Deferred) (a:Array Value) (w:World),
  ops[i]? = some ⟨dst,op,ty,pos,after,g⟩→Region.wanted ⟨dst,op,ty,pos,after,g⟩ (yielded ops a)=true→(∀ x v,ev E x=some v→evA a x=v)→Sep X.w0 X.base w H →
  ∃ v H' w',R v H'∧Sep X.w0 X.base w' H'∧Steps X.P (lone (X.c.fr a ds (.inRegion ops (i::is)::k)) X.cs w) (lone (X.c.fr (putA a dst v) ds (.inRegion ops is::k)) X.cs w')
def Is (v:Value) (H:List Seg):Value→List Seg→Prop:=fun u H' => u=v∧H' = H
theorem Does.mono {op:Op}{R R' : Value→List Seg→Prop}(h:Does X E H op R) (hr:∀ v H',R v H'→R' v H'):Does X E H op R':=by
 intro dst ty pos after g ops i is k ds a w ho hw ha S
 obtain ⟨v,H',w',hR,S',hs⟩:=h dst ty pos after g ops i is k ds a w ho hw ha S
 exact ⟨v,H',w',hr _ _ hR,S',hs⟩
theorem AtL.of {dst:Option Tmp}{op:Op}{ty:TypeId}{pos:String}{after:Array Edge}{g:Option (Nat×Bool)}{R:Value→List Seg→Prop}(h:Does X E H op R) (hg:Wd X ops E g) (hd:dstOk X.n dst=true)
  (hk:∀ v H',R v H'→AtL X ops os k (putE E dst v) ds H'):AtL X ops (⟨dst,op,ty,pos,after,g⟩::os) k E ds H:=by
 intro is hi a w ha S
 cases is with
 | nil => simp at hi
 | cons i is =>
  simp only [List.map_cons,List.cons.injEq] at hi
  obtain ⟨ho,hi⟩:=hi
  obtain ⟨v,H',w',hR,S',hs⟩:=h dst ty pos after g ops i is k ds a w ho (hg.wanted (o:=⟨dst,op,ty,pos,after,g⟩) ha) (fun x v hx => ha.ev hx) S
  exact .steps hs (hk v H' hR is hi _ _ (ha.put hd v) S')
theorem AtL.ofIs {d:Nat}{op:Op}{ty:TypeId}{pos:String}{after:Array Edge}{g:Option (Nat×Bool)}{v:Value}(h:Does X E H op (Is v H)) (hg:Wd X ops E g) (hd:Nat.blt d X.n=true)
  (hk:AtL X ops os k ((d,v)::E) ds H):AtL X ops (⟨some d,op,ty,pos,after,g⟩::os) k E ds H :=
 AtL.of h hg hd fun _ _ ⟨hv,hH⟩ => by subst hv; subst hH; exact hk
theorem Does.core {op:Op}{R:Value→List Seg→Prop}(hnd:Op.isDefer op=false)
  (h:∀ dst ty pos after g ρ w,(∀ x v,ev E x=some v→ρ x=v)→Sep X.w0 X.base w H→∃ v w' H',(execOp ρ ⟨dst,op,ty,pos,after,g⟩).run X.P w = .ok (.value v) w'∧Sep X.w0 X.base w' H'∧R v H'):Does X E H op R:=by
 intro dst ty pos after g ops i is k ds a w ho hw ha S
 obtain ⟨v,w',H',hr,S',hR⟩:=h dst ty pos after g (evA a) w ha S
 exact ⟨v,H',w',hR,S',.one (zez ho hw (.inl hnd) hr)⟩
theorem Does.coreU {op:Op}{R:Value→List Seg→Prop}(hnd:Op.isDefer op=false)
  (h:∀ dst ty pos after g ρ w,(∀ x v,ev E x=some v→ρ x=v)→Sep X.w0 X.base w H→∃ w' H',(execOp ρ ⟨dst,op,ty,pos,after,g⟩).run X.P w = .ok .skip w'∧Sep X.w0 X.base w' H'∧R undef H'):Does X E H op R:=by
 intro dst ty pos after g ops i is k ds a w ho hw ha S
 obtain ⟨w',H',hr,S',hR⟩:=h dst ty pos after g (evA a) w ha S
 exact ⟨undef,H',w',hR,S',.one (go_op_unit ho hw (.inl hnd) hr)⟩
theorem Does.pureOp {op:Op}{v:Value}(hnd:Op.isDefer op=false)
  (h:∀ dst ty pos after g ρ w,(∀ x v,ev E x=some v→ρ x=v)→(execOp ρ ⟨dst,op,ty,pos,after,g⟩).run X.P w = .ok (.value v) w):Does X E H op (Is v H) :=
 Does.core hnd fun dst ty pos after g ρ w hρ S => ⟨v,w,H,h dst ty pos after g ρ w hρ,S,rfl,rfl⟩
theorem Does.enter {op:Op}{f:FuncId}{args:List Value}{R:Value→List Seg→Prop}(hnd:Op.isDefer op=false)
  (h:∀ dst ty pos after g ρ w,(∀ x v,ev E x=some v→ρ x=v)→(execOp ρ ⟨dst,op,ty,pos,after,g⟩).run X.P w = .ok (.enter f args.toArray) w)
  (hc:SCalls X.P f args X.w0 X.base H R):Does X E H op R:=by
 intro dst ty pos after g ops i is k ds a w ho hw ha S
 have hr:=h dst ty pos after g (evA a) w ha
 obtain ⟨e,w',fr,⟨v,H',rfl,hR,S'⟩,hcomes,_,hleave⟩:=hc w S (X.c.fr a ds (.inRegion ops (i::is)::k)::X.cs)
 refine ⟨v,H',w',hR,S',.head (zbQ ho hw (.inl hnd) hr) (Steps.trans hcomes (.one ?_))⟩
 have:=step_leave_returned (cs:=X.cs) (c:=X.c.fr a ds (.inRegion ops (i::is)::k)) hleave
 rw [zax ho] at this
 exact this
theorem AtL.skipped {o:Oper}{j t:Nat}{want:Bool}{b:Bool}(hg:o.guard=some (j,want)) (hj:(ops[j]?).bind (·.dst)=some t) (ht:Nat.blt t X.n=true) (hb:Env.get E t=some (.bool b)) (hw:(b == want)=false) (hd:dstOk X.n o.dst=true)
  (h:AtL X ops os k (putE E o.dst undef) ds H):AtL X ops (o::os) k E ds H:=by
 intro is hi a w ha S
 cases is with
 | nil => simp at hi
 | cons i is =>
  simp only [List.map_cons,List.cons.injEq] at hi
  obtain ⟨ho,hi⟩:=hi
  refine .step (zcY ho ?_) (h is hi _ _ (ha.put hd undef) S)
  have:=zcK ha hj ht hb
  simp [Region.wanted,hg,this]
  cases b <;> cases want <;> simp_all
theorem AtL.split {t:Nat}{b:Bool}(hb:Env.get E t=some (.bool b)) (ht:b=true→AtL X ops os k ((t,.bool true)::E) ds H) (hf:b=false→AtL X ops os k ((t,.bool false)::E) ds H):AtL X ops os k E ds H:=by
 have hs:∀ (a:Array Value) (w:World),Agree X.n a E→Agree X.n a ((t,.bool b)::E):=by
  intro a w ha
  refine ⟨ha.size,fun u v hu => ?_⟩
  simp only [Env.get] at hu
  by_cases e:t=u
  ·subst e
   simp at hu
   subst hu
   exact ha.get t _ hb
  ·rw [zau e] at hu
   exact ha.get u v hu
 cases b with
 | true => exact fun is hi a w ha S => ht rfl is hi a w (hs a w ha) S
 | false => exact fun is hi a w ha S => hf rfl is hi a w (hs a w ha) S
end rules
theorem At.condD {X:Pt}{k:List Item}{E:Env}{ds:List Deferred}{H:List Seg}{o:Operand}{x y:Code}{P:Prop}{i:Decidable P}(hc:ev E o=some (.bool (@decide P i))) (ht:P→At X (.code x::k) E ds H) (hf:¬ P→At X (.code y::k) E ds H):At X (.code (.cond o x y)::k) E ds H:=At.cond hc (fun h => ht (of_decide_eq_true h)) (fun h => hf (of_decide_eq_false h))
theorem AtL.splitD {X:Pt}{k:List Item}{E:Env}{ds:List Deferred}{H:List Seg}{ops:Array Oper}{os:List Oper}{t:Nat}{P:Prop}{i:Decidable P}(hb:Env.get E t=some (.bool (@decide P i))) (ht:P→AtL X ops os k ((t,.bool true)::E) ds H) (hf:¬ P→AtL X ops os k ((t,.bool false)::E) ds H):AtL X ops os k E ds H:=AtL.split hb (fun h => ht (of_decide_eq_true h)) (fun h => hf (of_decide_eq_false h))
def Left (P:Program) (f:FuncId) (cs:List Frame) (w0:World) (base:Nat) (R:Value→List Seg→Prop) (m:Machine):Prop :=
 ∃ v H' fr w',m=lone fr cs w'∧fr.fn=f∧fr.leaving P w' (.returned v)∧R v H'∧Sep w0 base w' H'
def argsEnv:List Value→Nat→Env
 | [],_ => []
 | v::vs,i => (i,v)::argsEnv vs (i + 1)
theorem zeJ {vs:List Value}{i t:Nat}{v:Value}(h:Env.get (argsEnv vs i) t=some v):i≤t∧vs[t - i]? = some v:=by
 induction vs generalizing i with
 | nil => simp [argsEnv,Env.get] at h
 | cons u vs ih =>
  simp only [argsEnv,Env.get] at h
  by_cases e:i=t
  ·subst e
   simp at h
   simp [h]
  ·rw [zau e] at h
   obtain ⟨h1,h2⟩:=ih h
   refine ⟨by omega,?_⟩
   have:t - i=(t - (i + 1)) + 1:=by omega
   rw [this,List.getElem?_cons_succ]
   exact h2
theorem SCalls.of_walk {P:Program}{f:FuncId}{fn:Func}{c:Code}{n:Nat}{args:List Value}{w0:World}{base:Nat}{H:List Seg}{R:Value→List Seg→Prop}
  (hf:P.funcs[f]? = some fn) (hb:fn.body=some c) (hn:fn.ntmps=n) (hle:Nat.ble args.length n=true)
  (h:∀ cs,At ⟨P,⟨f,.normal,none⟩,n,cs,Left P f cs w0 base R,w0,base⟩ [.code c] (argsEnv args 0) [] H):SCalls P f args w0 base H R:=by
 intro w S cs
 have hle:=Nat.le_of_ble_eq_true hle
 have hA:Agree n (args.toArray++Array.replicate (n - args.length) undef) (argsEnv args 0):=by
  refine ⟨by simp; omega,fun t v hv => ?_⟩
  obtain ⟨_,h2⟩:=zeJ hv
  rw [Nat.sub_zero] at h2
  have hlt:=(List.getElem?_eq_some_iff.1 h2).1
  rw [Array.getD_eq_getD_getElem?,Array.getElem?_append_left (by simpa using hlt)]
  simp [h2]
 obtain ⟨m',hs,v,H',fr,w',rfl,h1,h2,h3,h4⟩:=h cs _ w hA S
 refine ⟨.returned v,w',fr,⟨v,H',rfl,h3,h4⟩,?_,h1,h2⟩
 have henter:Frame.enter P f args.toArray .normal=Ctx.fr ⟨f,.normal,none⟩ (args.toArray++Array.replicate (n - args.length) undef) [] [.code c]:=by
  simp [Frame.enter,Ctx.fr,hf,hb,hn]
 rw [henter]
 exact hs
def resV (E:Env):List ResultVar→Option (List Value)
 | [] => some []
 | .tmp t::rs => match Env.get E t with
  | some v => (resV E rs).map (v::·)
  | none => none
 | .cell _ _::_ => none
def oneOf:List Value→Value
 | [v] => v
 | vs => .tuple vs.toArray
theorem res_run {P:Program}{n:Nat}{a:Array Value}{E:Env}(ha:Agree n a E) {w:World}{rs:List ResultVar}{vs:List Value}(h:resV E rs=some vs) :
  (rs.mapM (m:=Sem) fun (r:ResultVar) => match r with
   | .tmp t => (Pure.pure (a.getD t undef):Sem Value)
   | .cell x t => do loadVar t (← asAddr (a.getD x undef))).run P w = .ok vs w:=by
 induction rs generalizing vs with
 | nil => simp only [resV,Option.some.injEq] at h; subst h; rfl
 | cons r rs ih =>
  cases r with
  | cell x t => simp [resV] at h
  | tmp t =>
   simp only [resV] at h
   cases hg:Env.get E t with
   | none => rw [hg] at h; cases h
   | some v =>
    rw [hg] at h
    cases hr:resV E rs with
    | none => rw [hr] at h; cases h
    | some us =>
     rw [hr] at h
     simp only [Option.map_some,Option.some.injEq] at h
     subst h
     rw [List.mapM_cons]
     simp only [Sem.run_bind,Sem.run_pure,Result.andThen_ok,ih hr,ha.get t v hg]
theorem At.ret_core {P:Program}{f:FuncId}{fn:Func}{n:Nat}{cs:List Frame}{w0:World}{base:Nat}{H:List Seg}{R:Value→List Seg→Prop}{E:Env}{k:List Item}{rs:List ResultVar}{vs:List Value}
  (hf:P.funcs[f]? = some fn) (hrs:fn.results.toList=rs) (hv:resV E rs=some vs) (hR:R (oneOf vs) H)
  (hk:∀ (a:Array Value) (w:World),∃ todo,step P (lone (Ctx.fr ⟨f,.normal,none⟩ a [] k) cs w) = .next (lone { Ctx.fr ⟨f,.normal,none⟩ a [] todo with mode:=.returning } cs w)) :
  At ⟨P,⟨f,.normal,none⟩,n,cs,Left P f cs w0 base R,w0,base⟩ k E [] H:=by
 intro a w ha S
 obtain ⟨todo,hs⟩:=hk a w
 refine ⟨_,.one hs,oneOf vs,H,_,w,rfl,rfl,⟨rfl,rfl,rfl,fn,hf,?_⟩,hR,S⟩
 have:=res_run (P:=P) ha (w:=w) hv
 unfold results
 rw [Array.mapM_eq_mapM_toList,hrs]
 simp only [Sem.run_bind,map_eq_pure_bind,Sem.run_pure] at this ⊢
 refine Eq.trans ?_ (congrArg (fun r => Result.ok r w) (show (if h:vs.toArray.size=1 then vs.toArray[0] else .tuple vs.toArray)=oneOf vs from ?_))
 ·exact (congrArg (fun r => Result.andThen r _) (congrArg (fun r => Result.andThen r _) this)).trans (by simp [Result.andThen_ok])
 ·match vs with
  | [] => rfl
  | [v] => rfl
  | v::u::vs => rfl
theorem At.ret {P:Program}{f:FuncId}{fn:Func}{n:Nat}{cs:List Frame}{w0:World}{base:Nat}{H:List Seg}{R:Value→List Seg→Prop}{E:Env}{k:List Item}{rs:List ResultVar}{vs:List Value}
  (hf:P.funcs[f]? = some fn) (hrs:fn.results.toList=rs) (hv:resV E rs=some vs) (hR:R (oneOf vs) H) :
  At ⟨P,⟨f,.normal,none⟩,n,cs,Left P f cs w0 base R,w0,base⟩ (.code .ret::k) E [] H :=
 At.ret_core hf hrs hv hR fun a w => ⟨_,go_ret rfl⟩
theorem At.end_ {P:Program}{f:FuncId}{fn:Func}{n:Nat}{cs:List Frame}{w0:World}{base:Nat}{H:List Seg}{R:Value→List Seg→Prop}{E:Env}{rs:List ResultVar}{vs:List Value}
  (hf:P.funcs[f]? = some fn) (hrs:fn.results.toList=rs) (hv:resV E rs=some vs) (hR:R (oneOf vs) H) :
  At ⟨P,⟨f,.normal,none⟩,n,cs,Left P f cs w0 base R,w0,base⟩ [] E [] H :=
 At.ret_core hf hrs hv hR fun a w => ⟨_,go_end rfl⟩
def str (l:List UInt8):Value:=.string ⟨⟨l⟩⟩
def byt (u:UInt8):Value:=.int .u8 (u.toNat:Int)
abbrev int (x:Int):Value:=.int .i64 x
theorem za9 (l:List UInt8):(ByteArray.mk ⟨l⟩).size=l.length:=rfl
theorem w64 {z:Int}(h1:-9223372036854775808≤z) (h2:z≤9223372036854775807):IntKind.i64.wrap z=z:=IntWalk.i64_in _ ⟨h1,h2⟩
theorem za6 (l:List UInt8):(ByteArray.mk ⟨l⟩).toList=l:=ByteArray.toList_eq _
theorem ba_get (l:List UInt8) (j:Nat) (hj:j < l.length):(ByteArray.mk ⟨l⟩)[j]? = some (l.getD j 0):=by
 rw [getElem?_pos (ByteArray.mk ⟨l⟩) j hj]
 show some l[j]=_
 simp [List.getD,hj]
theorem zeH (a b:List UInt8):(a == b)=decide (a=b):=by
 rw [Bool.eq_iff_iff]; simp
section
variable {X:Pt}{k:List Item}{E:Env}{ds:List Deferred}{H:List Seg}{ops:Array Oper}{os:List Oper}
  {d:Nat}{ty:TypeId}{pos:String}{after:Array Edge}{g:Option (Nat×Bool)}
theorem Do.move {x:Operand}{v:Value}(hx:ev E x=some v):Does X E H (.move x) (Is (v) H) :=
 Does.pureOp rfl (fun dst ty pos after g ρ w hρ => by simp [execOp,hρ _ _ hx])
theorem AtL.move {x:Operand}{v:Value}(hg:Wd X ops E g) (hd:Nat.blt d X.n=true) (hx:ev E x=some v) (hk:AtL X ops os k ((d,v)::E) ds H) :
  AtL X ops (⟨some d,.move x,ty,pos,after,g⟩::os) k E ds H :=
 AtL.ofIs (Do.move hx) hg hd hk
theorem Do.assign {x:Operand}{v:Value}(hx:ev E x=some v):Does X E H (.assign x) (Is (v) H) :=
 Does.pureOp rfl (fun dst ty pos after g ρ w hρ => by simp [execOp,hρ _ _ hx])
theorem AtL.assign {x:Operand}{v:Value}(hg:Wd X ops E g) (hd:Nat.blt d X.n=true) (hx:ev E x=some v) (hk:AtL X ops os k ((d,v)::E) ds H) :
  AtL X ops (⟨some d,.assign x,ty,pos,after,g⟩::os) k E ds H :=
 AtL.ofIs (Do.assign hx) hg hd hk
theorem Do.pickT {c x y:Operand}{v:Value}(hc:ev E c=some (.bool true)) (hx:ev E x=some v):Does X E H (.pick c x y) (Is (v) H) :=
 Does.pureOp rfl (fun dst ty pos after g ρ w hρ => by simp [execOp,hρ _ _ hx,hρ _ _ hc,asBool])
theorem AtL.pickT {c x y:Operand}{v:Value}(hg:Wd X ops E g) (hd:Nat.blt d X.n=true) (hc:ev E c=some (.bool true)) (hx:ev E x=some v) (hk:AtL X ops os k ((d,v)::E) ds H) :
  AtL X ops (⟨some d,.pick c x y,ty,pos,after,g⟩::os) k E ds H :=
 AtL.ofIs (Do.pickT hc hx) hg hd hk
theorem Do.pickF {c x y:Operand}{v:Value}(hc:ev E c=some (.bool false)) (hy:ev E y=some v):Does X E H (.pick c x y) (Is (v) H) :=
 Does.pureOp rfl (fun dst ty pos after g ρ w hρ => by simp [execOp,hρ _ _ hy,hρ _ _ hc,asBool])
theorem AtL.pickF {c x y:Operand}{v:Value}(hg:Wd X ops E g) (hd:Nat.blt d X.n=true) (hc:ev E c=some (.bool false)) (hy:ev E y=some v) (hk:AtL X ops os k ((d,v)::E) ds H) :
  AtL X ops (⟨some d,.pick c x y,ty,pos,after,g⟩::os) k E ds H :=
 AtL.ofIs (Do.pickF hc hy) hg hd hk
theorem Do.bin {op:BinOp}{tx tz:TypeId}{x y:Operand}{a b v:Value}(hx:ev E x=some a) (hy:ev E y=some b) (hr:∀ w,(do eqGuard op tx x y a b; binOp op tx a b:Sem Value).run X.P w = .ok v w):Does X E H (.binOp op tx x y tz) (Is (v) H) :=
 Does.pureOp rfl (fun dst ty pos after g ρ w hρ => by
  have:=hr w
  simp only [execOp,hρ _ _ hx,hρ _ _ hy,Sem.run_bind] at this ⊢
  rw [← Sem.run_bind,Sem.run_bind]
  simp only [Sem.run_bind,this,Result.andThen_ok,Sem.run_pure])
section ints
variable {kk:IntKind}{tx tz:TypeId}{x y:Operand}{a b z:Int}
theorem Do.add (hx:ev E x=some (.int kk a)) (hy:ev E y=some (.int kk b)) (hz:kk.wrap (a + b)=z):Does X E H (.binOp .add tx x y tz) (Is (.int kk z) H) :=
 Do.bin hx hy (fun w => by simp [eqGuard,binOp,Op.intArith,hz])
theorem AtL.add (hg:Wd X ops E g) (hd:Nat.blt d X.n=true) (hx:ev E x=some (.int kk a)) (hy:ev E y=some (.int kk b)) (hz:kk.wrap (a + b)=z) (hk:AtL X ops os k ((d,.int kk z)::E) ds H) :
  AtL X ops (⟨some d,.binOp .add tx x y tz,ty,pos,after,g⟩::os) k E ds H :=
 AtL.ofIs (Do.add hx hy hz) hg hd hk
theorem Do.sub (hx:ev E x=some (.int kk a)) (hy:ev E y=some (.int kk b)) (hz:kk.wrap (a - b)=z):Does X E H (.binOp .sub tx x y tz) (Is (.int kk z) H) :=
 Do.bin hx hy (fun w => by simp [eqGuard,binOp,Op.intArith,hz])
theorem AtL.sub (hg:Wd X ops E g) (hd:Nat.blt d X.n=true) (hx:ev E x=some (.int kk a)) (hy:ev E y=some (.int kk b)) (hz:kk.wrap (a - b)=z) (hk:AtL X ops os k ((d,.int kk z)::E) ds H) :
  AtL X ops (⟨some d,.binOp .sub tx x y tz,ty,pos,after,g⟩::os) k E ds H :=
 AtL.ofIs (Do.sub hx hy hz) hg hd hk
theorem Do.mul (hx:ev E x=some (.int kk a)) (hy:ev E y=some (.int kk b)) (hz:kk.wrap (a * b)=z):Does X E H (.binOp .mul tx x y tz) (Is (.int kk z) H) :=
 Do.bin hx hy (fun w => by simp [eqGuard,binOp,Op.intArith,hz])
theorem AtL.mul (hg:Wd X ops E g) (hd:Nat.blt d X.n=true) (hx:ev E x=some (.int kk a)) (hy:ev E y=some (.int kk b)) (hz:kk.wrap (a * b)=z) (hk:AtL X ops os k ((d,.int kk z)::E) ds H) :
  AtL X ops (⟨some d,.binOp .mul tx x y tz,ty,pos,after,g⟩::os) k E ds H :=
 AtL.ofIs (Do.mul hx hy hz) hg hd hk
theorem Do.quo (hx:ev E x=some (.int kk a)) (hy:ev E y=some (.int kk b)) (hb:b≠0) (hz:kk.wrap (a.tdiv b)=z):Does X E H (.binOp .quo tx x y tz) (Is (.int kk z) H) :=
 Do.bin hx hy (fun w => by simp [eqGuard,binOp,Op.intDiv,hz,hb])
theorem AtL.quo (hg:Wd X ops E g) (hd:Nat.blt d X.n=true) (hx:ev E x=some (.int kk a)) (hy:ev E y=some (.int kk b)) (hb:b≠0) (hz:kk.wrap (a.tdiv b)=z) (hk:AtL X ops os k ((d,.int kk z)::E) ds H) :
  AtL X ops (⟨some d,.binOp .quo tx x y tz,ty,pos,after,g⟩::os) k E ds H :=
 AtL.ofIs (Do.quo hx hy hb hz) hg hd hk
theorem Do.rem (hx:ev E x=some (.int kk a)) (hy:ev E y=some (.int kk b)) (hb:b≠0) (hz:a.tmod b=z):Does X E H (.binOp .rem tx x y tz) (Is (.int kk z) H) :=
 Do.bin hx hy (fun w => by simp [eqGuard,binOp,Op.intDiv,hz,hb])
theorem AtL.rem (hg:Wd X ops E g) (hd:Nat.blt d X.n=true) (hx:ev E x=some (.int kk a)) (hy:ev E y=some (.int kk b)) (hb:b≠0) (hz:a.tmod b=z) (hk:AtL X ops os k ((d,.int kk z)::E) ds H) :
  AtL X ops (⟨some d,.binOp .rem tx x y tz,ty,pos,after,g⟩::os) k E ds H :=
 AtL.ofIs (Do.rem hx hy hb hz) hg hd hk
theorem Do.shl {k2:IntKind}(hx:ev E x=some (.int kk a)) (hy:ev E y=some (.int k2 b)) (hb:0≤b) (hz:kk.wrap (a * 2 ^ (min b.toNat kk.bits))=z):Does X E H (.binOp .shl tx x y tz) (Is (.int kk z) H) :=
 Do.bin hx hy (fun w => by simp [eqGuard,binOp,Op.shift,hz,show ¬ b < 0 by omega])
theorem AtL.shl {k2:IntKind}(hg:Wd X ops E g) (hd:Nat.blt d X.n=true) (hx:ev E x=some (.int kk a)) (hy:ev E y=some (.int k2 b)) (hb:0≤b) (hz:kk.wrap (a * 2 ^ (min b.toNat kk.bits))=z) (hk:AtL X ops os k ((d,.int kk z)::E) ds H) :
  AtL X ops (⟨some d,.binOp .shl tx x y tz,ty,pos,after,g⟩::os) k E ds H :=
 AtL.ofIs (Do.shl hx hy hb hz) hg hd hk
theorem Do.shr {k2:IntKind}(hx:ev E x=some (.int kk a)) (hy:ev E y=some (.int k2 b)) (hb:0≤b) (hz:a.fdiv (2 ^ (min b.toNat kk.bits))=z):Does X E H (.binOp .shr tx x y tz) (Is (.int kk z) H) :=
 Do.bin hx hy (fun w => by simp [eqGuard,binOp,Op.shift,hz,show ¬ b < 0 by omega])
theorem AtL.shr {k2:IntKind}(hg:Wd X ops E g) (hd:Nat.blt d X.n=true) (hx:ev E x=some (.int kk a)) (hy:ev E y=some (.int k2 b)) (hb:0≤b) (hz:a.fdiv (2 ^ (min b.toNat kk.bits))=z) (hk:AtL X ops os k ((d,.int kk z)::E) ds H) :
  AtL X ops (⟨some d,.binOp .shr tx x y tz,ty,pos,after,g⟩::os) k E ds H :=
 AtL.ofIs (Do.shr hx hy hb hz) hg hd hk
theorem Do.band (hx:ev E x=some (.int kk a)) (hy:ev E y=some (.int kk b)) (hz:kk.wrap ((BitVec.ofInt kk.bits a &&& BitVec.ofInt kk.bits b).toNat:Int)=z):Does X E H (.binOp .and tx x y tz) (Is (.int kk z) H) :=
 Do.bin hx hy (fun w => by rw [← hz]; simp [eqGuard,binOp,Op.intBits])
theorem AtL.band (hg:Wd X ops E g) (hd:Nat.blt d X.n=true) (hx:ev E x=some (.int kk a)) (hy:ev E y=some (.int kk b)) (hz:kk.wrap ((BitVec.ofInt kk.bits a &&& BitVec.ofInt kk.bits b).toNat:Int)=z) (hk:AtL X ops os k ((d,.int kk z)::E) ds H) :
  AtL X ops (⟨some d,.binOp .and tx x y tz,ty,pos,after,g⟩::os) k E ds H :=
 AtL.ofIs (Do.band hx hy hz) hg hd hk
theorem Do.bor (hx:ev E x=some (.int kk a)) (hy:ev E y=some (.int kk b)) (hz:kk.wrap ((BitVec.ofInt kk.bits a ||| BitVec.ofInt kk.bits b).toNat:Int)=z):Does X E H (.binOp .or tx x y tz) (Is (.int kk z) H) :=
 Do.bin hx hy (fun w => by rw [← hz]; simp [eqGuard,binOp,Op.intBits])
theorem AtL.bor (hg:Wd X ops E g) (hd:Nat.blt d X.n=true) (hx:ev E x=some (.int kk a)) (hy:ev E y=some (.int kk b)) (hz:kk.wrap ((BitVec.ofInt kk.bits a ||| BitVec.ofInt kk.bits b).toNat:Int)=z) (hk:AtL X ops os k ((d,.int kk z)::E) ds H) :
  AtL X ops (⟨some d,.binOp .or tx x y tz,ty,pos,after,g⟩::os) k E ds H :=
 AtL.ofIs (Do.bor hx hy hz) hg hd hk
theorem Do.lss (hx:ev E x=some (.int kk a)) (hy:ev E y=some (.int kk b)):Does X E H (.binOp .lss tx x y tz) (Is (.bool (decide (a < b))) H) :=
 Do.bin hx hy (fun w => by simp [eqGuard,binOp,Op.intCmp])
theorem AtL.lss (hg:Wd X ops E g) (hd:Nat.blt d X.n=true) (hx:ev E x=some (.int kk a)) (hy:ev E y=some (.int kk b)) (hk:AtL X ops os k ((d,.bool (decide (a < b)))::E) ds H) :
  AtL X ops (⟨some d,.binOp .lss tx x y tz,ty,pos,after,g⟩::os) k E ds H :=
 AtL.ofIs (Do.lss hx hy) hg hd hk
theorem Do.leq (hx:ev E x=some (.int kk a)) (hy:ev E y=some (.int kk b)):Does X E H (.binOp .leq tx x y tz) (Is (.bool (decide (a≤b))) H) :=
 Do.bin hx hy (fun w => by simp [eqGuard,binOp,Op.intCmp])
theorem AtL.leq (hg:Wd X ops E g) (hd:Nat.blt d X.n=true) (hx:ev E x=some (.int kk a)) (hy:ev E y=some (.int kk b)) (hk:AtL X ops os k ((d,.bool (decide (a≤b)))::E) ds H) :
  AtL X ops (⟨some d,.binOp .leq tx x y tz,ty,pos,after,g⟩::os) k E ds H :=
 AtL.ofIs (Do.leq hx hy) hg hd hk
theorem Do.gtr (hx:ev E x=some (.int kk a)) (hy:ev E y=some (.int kk b)):Does X E H (.binOp .gtr tx x y tz) (Is (.bool (decide (b < a))) H) :=
 Do.bin hx hy (fun w => by simp [eqGuard,binOp,Op.intCmp])
theorem AtL.gtr (hg:Wd X ops E g) (hd:Nat.blt d X.n=true) (hx:ev E x=some (.int kk a)) (hy:ev E y=some (.int kk b)) (hk:AtL X ops os k ((d,.bool (decide (b < a)))::E) ds H) :
  AtL X ops (⟨some d,.binOp .gtr tx x y tz,ty,pos,after,g⟩::os) k E ds H :=
 AtL.ofIs (Do.gtr hx hy) hg hd hk
theorem Do.geq (hx:ev E x=some (.int kk a)) (hy:ev E y=some (.int kk b)):Does X E H (.binOp .geq tx x y tz) (Is (.bool (decide (b≤a))) H) :=
 Do.bin hx hy (fun w => by simp [eqGuard,binOp,Op.intCmp])
theorem AtL.geq (hg:Wd X ops E g) (hd:Nat.blt d X.n=true) (hx:ev E x=some (.int kk a)) (hy:ev E y=some (.int kk b)) (hk:AtL X ops os k ((d,.bool (decide (b≤a)))::E) ds H) :
  AtL X ops (⟨some d,.binOp .geq tx x y tz,ty,pos,after,g⟩::os) k E ds H :=
 AtL.ofIs (Do.geq hx hy) hg hd hk
theorem Do.eqi (hx:ev E x=some (.int kk a)) (hy:ev E y=some (.int kk b)):Does X E H (.binOp .eql tx x y tz) (Is (.bool (decide (a=b))) H) :=
 Do.bin hx hy (fun w => by simp [eqGuard,binOp,Op.intCmp]; rfl)
theorem AtL.eqi (hg:Wd X ops E g) (hd:Nat.blt d X.n=true) (hx:ev E x=some (.int kk a)) (hy:ev E y=some (.int kk b)) (hk:AtL X ops os k ((d,.bool (decide (a=b)))::E) ds H) :
  AtL X ops (⟨some d,.binOp .eql tx x y tz,ty,pos,after,g⟩::os) k E ds H :=
 AtL.ofIs (Do.eqi hx hy) hg hd hk
theorem Do.nei (hx:ev E x=some (.int kk a)) (hy:ev E y=some (.int kk b)):Does X E H (.binOp .neq tx x y tz) (Is (.bool (!decide (a=b))) H) :=
 Do.bin hx hy (fun w => by simp [eqGuard,binOp,Op.intCmp]; rfl)
theorem AtL.nei (hg:Wd X ops E g) (hd:Nat.blt d X.n=true) (hx:ev E x=some (.int kk a)) (hy:ev E y=some (.int kk b)) (hk:AtL X ops os k ((d,.bool (!decide (a=b)))::E) ds H) :
  AtL X ops (⟨some d,.binOp .neq tx x y tz,ty,pos,after,g⟩::os) k E ds H :=
 AtL.ofIs (Do.nei hx hy) hg hd hk
end ints
section strings
variable {tx tz:TypeId}{x y:Operand}{a b:List UInt8}
theorem Do.eqs (hx:ev E x=some (str a)) (hy:ev E y=some (str b)):Does X E H (.binOp .eql tx x y tz) (Is (.bool (decide (a=b))) H) :=
 Do.bin hx hy (fun w => by simp [str,eqGuard,binOp_string_eql,za6,zeH])
theorem AtL.eqs (hg:Wd X ops E g) (hd:Nat.blt d X.n=true) (hx:ev E x=some (str a)) (hy:ev E y=some (str b)) (hk:AtL X ops os k ((d,.bool (decide (a=b)))::E) ds H) :
  AtL X ops (⟨some d,.binOp .eql tx x y tz,ty,pos,after,g⟩::os) k E ds H :=
 AtL.ofIs (Do.eqs hx hy) hg hd hk
theorem Do.nes (hx:ev E x=some (str a)) (hy:ev E y=some (str b)):Does X E H (.binOp .neq tx x y tz) (Is (.bool (!decide (a=b))) H) :=
 Do.bin hx hy (fun w => by simp [str,eqGuard,binOp_string_neq,za6,zeH])
theorem AtL.nes (hg:Wd X ops E g) (hd:Nat.blt d X.n=true) (hx:ev E x=some (str a)) (hy:ev E y=some (str b)) (hk:AtL X ops os k ((d,.bool (!decide (a=b)))::E) ds H) :
  AtL X ops (⟨some d,.binOp .neq tx x y tz,ty,pos,after,g⟩::os) k E ds H :=
 AtL.ofIs (Do.nes hx hy) hg hd hk
theorem Do.cat (hx:ev E x=some (str a)) (hy:ev E y=some (str b)) (hl:a.length + b.length≤9223372036854775807):Does X E H (.binOp .add tx x y tz) (Is (str (a++b)) H) :=
 Do.bin hx hy (fun w => by
  have h:¬ ((9223372036854775807:Int) < ((a.length:Int) + (b.length:Int))):=by omega
  have e:(ByteArray.mk ⟨a⟩++ByteArray.mk ⟨b⟩)=ByteArray.mk ⟨a++b⟩:=by
   apply ByteArray.ext
   simp
  simp [str,eqGuard,binOp,Op.stringOp,IntKind.max,IntKind.bits,IntKind.signed,za9,h,e])
theorem AtL.cat (hg:Wd X ops E g) (hd:Nat.blt d X.n=true) (hx:ev E x=some (str a)) (hy:ev E y=some (str b)) (hl:a.length + b.length≤9223372036854775807) (hk:AtL X ops os k ((d,str (a++b))::E) ds H) :
  AtL X ops (⟨some d,.binOp .add tx x y tz,ty,pos,after,g⟩::os) k E ds H :=
 AtL.ofIs (Do.cat hx hy hl) hg hd hk
end strings
theorem Do.not {tx:TypeId}{x:Operand}{b:Bool}(hx:ev E x=some (.bool b)):Does X E H (.unOp .not tx x) (Is (.bool (!b)) H) :=
 Does.pureOp rfl (fun dst ty pos after g ρ w hρ => by simp [execOp,hρ _ _ hx,Op.unary])
theorem AtL.not {tx:TypeId}{x:Operand}{b:Bool}(hg:Wd X ops E g) (hd:Nat.blt d X.n=true) (hx:ev E x=some (.bool b)) (hk:AtL X ops os k ((d,.bool (!b))::E) ds H) :
  AtL X ops (⟨some d,.unOp .not tx x,ty,pos,after,g⟩::os) k E ds H :=
 AtL.ofIs (Do.not hx) hg hd hk
theorem Do.neg {tx:TypeId}{x:Operand}{kk:IntKind}{a z:Int}(hx:ev E x=some (.int kk a)) (hz:kk.wrap (0 - a)=z):Does X E H (.unOp .neg tx x) (Is (.int kk z) H) :=
 Does.pureOp rfl (fun dst ty pos after g ρ w hρ => by
  rw [← hz]
  simp [execOp,hρ _ _ hx,Op.unary,Op.intArith])
theorem AtL.neg {tx:TypeId}{x:Operand}{kk:IntKind}{a z:Int}(hg:Wd X ops E g) (hd:Nat.blt d X.n=true) (hx:ev E x=some (.int kk a)) (hz:kk.wrap (0 - a)=z) (hk:AtL X ops os k ((d,.int kk z)::E) ds H) :
  AtL X ops (⟨some d,.unOp .neg tx x,ty,pos,after,g⟩::os) k E ds H :=
 AtL.ofIs (Do.neg hx hz) hg hd hk
theorem Do.eqBy {tx tz:TypeId}{x y:Operand}{a b:Value}{t:Bool}(hs:binOp .eql tx a b=(do pure (.bool (← Op.equal tx a b)):Sem Value)) (hgd:eqGuard .eql tx x y a b=pure ()) (hx:ev E x=some a) (hy:ev E y=some b) (he:∀ w,(Op.equalIn (9999 + 1) tx a b).run X.P w = .ok t w):Does X E H (.binOp .eql tx x y tz) (Is (.bool t) H) :=
 Do.bin hx hy (fun w => by
  have:(Op.equal tx a b).run X.P w = .ok t w:=he w
  rw [hs,hgd]
  simp only [Sem.run_bind,Sem.run_pure,Result.andThen_ok,this])
theorem Do.neBy {tx tz:TypeId}{x y:Operand}{a b:Value}{t:Bool}(hs:binOp .neq tx a b=(do pure (.bool (!(← Op.equal tx a b))):Sem Value)) (hgd:eqGuard .neq tx x y a b=pure ()) (hx:ev E x=some a) (hy:ev E y=some b) (he:∀ w,(Op.equalIn (9999 + 1) tx a b).run X.P w = .ok t w):Does X E H (.binOp .neq tx x y tz) (Is (.bool (!t)) H) :=
 Do.bin hx hy (fun w => by
  have:(Op.equal tx a b).run X.P w = .ok t w:=he w
  rw [hs,hgd]
  simp only [Sem.run_bind,Sem.run_pure,Result.andThen_ok,this])
theorem zbY {P:Program}{w:World}{n:Nat}{t e:TypeId}{A:Option Addr}(hu:P.underlying t=some (.pointer e)):(Op.equalIn (n + 1) t (.pointer A) (.pointer none)).run P w = .ok A.isNone w:=by
 cases A with
 | none => simp [Op.equalIn,run_underlying hu]
 | some p => simp [Op.equalIn,run_underlying hu]
theorem Do.eqPtrNil {tx tz e:TypeId}{x y:Operand}{A:Option Addr}(hu:X.P.underlying tx=some (.pointer e)) (hx:ev E x=some (.pointer A)) (hy:ev E y=some (.pointer none)):Does X E H (.binOp .eql tx x y tz) (Is (.bool A.isNone) H) :=
 Do.eqBy (by cases A <;> rfl) rfl hx hy (fun w => zbY hu)
theorem AtL.eqPtrNil {tx tz e:TypeId}{x y:Operand}{A:Option Addr}(hu:X.P.underlying tx=some (.pointer e)) (hg:Wd X ops E g) (hd:Nat.blt d X.n=true) (hx:ev E x=some (.pointer A)) (hy:ev E y=some (.pointer none)) (hk:AtL X ops os k ((d,.bool A.isNone)::E) ds H) :
  AtL X ops (⟨some d,.binOp .eql tx x y tz,ty,pos,after,g⟩::os) k E ds H :=
 AtL.ofIs (Do.eqPtrNil hu hx hy) hg hd hk
theorem Do.nilCheck {x:Operand}{p:Addr}(hx:ev E x=some (.pointer (some p))):Does X E H (.nilCheck x) (Is (.pointer (some p)) H) :=
 Does.pureOp rfl (fun dst ty pos after g ρ w hρ => by simp [execOp,hρ _ _ hx])
theorem AtL.nilCheck {x:Operand}{p:Addr}(hg:Wd X ops E g) (hd:Nat.blt d X.n=true) (hx:ev E x=some (.pointer (some p))) (hk:AtL X ops os k ((d,.pointer (some p))::E) ds H) :
  AtL X ops (⟨some d,.nilCheck x,ty,pos,after,g⟩::os) k E ds H :=
 AtL.ofIs (Do.nilCheck hx) hg hd hk
theorem Do.nilCheckI {x:Operand}{t:TypeId}{v:Value}(hx:ev E x=some (.iface t v)):Does X E H (.nilCheck x) (Is (.iface t v) H) :=
 Does.pureOp rfl (fun dst ty pos after g ρ w hρ => by simp [execOp,hρ _ _ hx])
theorem Do.nilCheckF {x:Operand}{f:FuncId}{u c:Array Value}(hx:ev E x=some (.func (.func f) u c)):Does X E H (.nilCheck x) (Is (.func (.func f) u c) H) :=
 Does.pureOp rfl (fun dst ty pos after g ρ w hρ => by simp [execOp,hρ _ _ hx])
theorem Do.extract {x:Operand}{i:Nat}{vs:Array Value}{v:Value}(hx:ev E x=some (.tuple vs)) (hi:vs[i]? = some v):Does X E H (.extract x i) (Is (v) H) :=
 Does.pureOp rfl (fun dst ty pos after g ρ w hρ => by simp [execOp,hρ _ _ hx,Instr.extract,hi])
theorem AtL.extract {x:Operand}{i:Nat}{vs:Array Value}{v:Value}(hg:Wd X ops E g) (hd:Nat.blt d X.n=true) (hx:ev E x=some (.tuple vs)) (hi:vs[i]? = some v) (hk:AtL X ops os k ((d,v)::E) ds H) :
  AtL X ops (⟨some d,.extract x i,ty,pos,after,g⟩::os) k E ds H :=
 AtL.ofIs (Do.extract hx hi) hg hd hk
def evs (E:Env):List Operand→Option (List Value)
 | [] => some []
 | x::xs => match ev E x with
  | some v => (evs E xs).map (v::·)
  | none => none
theorem evs_map {xs:List Operand}{vs:List Value}{ρ:Operand→Value}(hρ:∀ x v,ev E x=some v→ρ x=v) (h:evs E xs=some vs):xs.map ρ=vs:=by
 induction xs generalizing vs with
 | nil => simpa [evs] using h
 | cons x xs ih =>
  simp only [evs] at h
  cases hx:ev E x with
  | none => rw [hx] at h; cases h
  | some v =>
   rw [hx] at h
   cases hr:evs E xs with
   | none => rw [hr] at h; cases h
   | some us =>
    rw [hr] at h
    simp only [Option.map_some,Option.some.injEq] at h
    subst h
    rw [List.map_cons,hρ _ _ hx,ih hr]
theorem zbb {xs:Array Operand}{vs:List Value}{ρ:Operand→Value}(hρ:∀ x v,ev E x=some v→ρ x=v) (h:evs E xs.toList=some vs):xs.map ρ=vs.toArray:=by
 apply Array.ext'
 rw [Array.toList_map]
 exact evs_map hρ h
theorem Do.makeFunc {fn:Fn}{u c:Array Operand}{us cs:List Value}(hu:evs E u.toList=some us) (hc:evs E c.toList=some cs):Does X E H (.makeFunc fn u c) (Is (.func fn us.toArray cs.toArray) H) :=
 Does.pureOp rfl (fun dst ty pos after g ρ w hρ => by simp [execOp,Instr.makeFunc,zbb hρ hu,zbb hρ hc])
theorem AtL.makeFunc {fn:Fn}{u c:Array Operand}{us cs:List Value}(hg:Wd X ops E g) (hd:Nat.blt d X.n=true) (hu:evs E u.toList=some us) (hc:evs E c.toList=some cs) (hk:AtL X ops os k ((d,.func fn us.toArray cs.toArray)::E) ds H) :
  AtL X ops (⟨some d,.makeFunc fn u c,ty,pos,after,g⟩::os) k E ds H :=
 AtL.ofIs (Do.makeFunc hu hc) hg hd hk
theorem Do.makeIface {t:TypeId}{dd:TypeDesc}{x:Operand}{v:Value}(hu:X.P.underlying t=some dd) (hnd:(match dd with | .interface _ => false | _ => true)=true) (hx:ev E x=some v):Does X E H (.makeInterface t x) (Is (.iface t v) H) :=
 Does.pureOp rfl (fun dst ty pos after g ρ w hρ => by cases dd <;> simp_all [execOp,hρ _ _ hx,Instr.makeInterface,run_underlying hu])
theorem AtL.makeIface {t:TypeId}{dd:TypeDesc}{x:Operand}{v:Value}(hu:X.P.underlying t=some dd) (hnd:(match dd with | .interface _ => false | _ => true)=true) (hg:Wd X ops E g) (hd:Nat.blt d X.n=true) (hx:ev E x=some v) (hk:AtL X ops os k ((d,.iface t v)::E) ds H) :
  AtL X ops (⟨some d,.makeInterface t x,ty,pos,after,g⟩::os) k E ds H :=
 AtL.ofIs (Do.makeIface hu hnd hx) hg hd hk
theorem Do.convInt {src dst:TypeId}{sd:TypeDesc}{kk k2:IntKind}{x:Operand}{a z:Int}(hs:X.P.underlying src=some sd) (hu:X.P.underlying dst=some (.int kk)) (hx:ev E x=some (.int k2 a)) (hz:kk.wrap a=z):Does X E H (.convert src dst x) (Is (.int kk z) H) :=
 Does.pureOp rfl (fun dst ty pos after g ρ w hρ => by simp [execOp,hρ _ _ hx,convert,run_underlying hs,run_underlying hu,Conv.intToInt,hz])
theorem AtL.convInt {src dst:TypeId}{sd:TypeDesc}{kk k2:IntKind}{x:Operand}{a z:Int}(hs:X.P.underlying src=some sd) (hu:X.P.underlying dst=some (.int kk)) (hg:Wd X ops E g) (hd:Nat.blt d X.n=true) (hx:ev E x=some (.int k2 a)) (hz:kk.wrap a=z)
  (hk:AtL X ops os k ((d,.int kk z)::E) ds H) :
  AtL X ops (⟨some d,.convert src dst x,ty,pos,after,g⟩::os) k E ds H :=
 AtL.ofIs (Do.convInt hs hu hx hz) hg hd hk
theorem Do.indexS {xt:TypeId}{x ix:Operand}{kk:IntKind}{l:List UInt8}{i:Int}(j:Nat) (hij:i=(j:Int)) (hj:j < l.length) (hu:X.P.underlying xt=some .string) (hx:ev E x=some (str l)) (hi:ev E ix=some (.int kk i)):Does X E H (.index xt x ix) (Is (byt (l.getD j 0)) H) :=
 Does.pureOp rfl (fun dst ty pos after g ρ w hρ => by
  subst hij
  simp [str,execOp,hρ _ _ hx,hρ _ _ hi,Instr.index,asIntOf,run_underlying hu,ba_get l j hj,byt])
theorem AtL.indexS {xt:TypeId}{x ix:Operand}{kk:IntKind}{l:List UInt8}{i:Int}(j:Nat) (hij:i=(j:Int)) (hj:j < l.length) (hu:X.P.underlying xt=some .string) (hg:Wd X ops E g) (hd:Nat.blt d X.n=true) (hx:ev E x=some (str l)) (hi:ev E ix=some (.int kk i))
  (hk:AtL X ops os k ((d,byt (l.getD j 0))::E) ds H) :
  AtL X ops (⟨some d,.index xt x ix,ty,pos,after,g⟩::os) k E ds H :=
 AtL.ofIs (Do.indexS j hij hj hu hx hi) hg hd hk
def subl {α:Type}(l:List α) (i j:Nat):List α:=(l.drop i).take (j - i)
theorem zaA {α:Type}{l:List α}{i j:Nat}(hj:j≤l.length):(subl l i j).length=j - i:=by simp [subl]; omega
def evBound (E:Env):Option Operand→Nat→Nat→Prop
 | none,dflt,v => v=dflt
 | some x,_,v => ∃ kk z,ev E x=some (.int kk z)∧z=(v:Int)
theorem zcF {E:Env}{n:Nat}:evBound E none n n:=rfl
theorem zap {E:Env}{x:Operand}{kk:IntKind}{z:Int}{n v:Nat}(h:ev E x=some (.int kk z)) (hz:z=(v:Int)):evBound E (some x) n v:=⟨kk,z,h,hz⟩
theorem Do.sliceS {xt:TypeId}{x:Operand}{lo hi:Option Operand}{l:List UInt8}(i j:Nat) (h1:evBound E lo 0 i) (h2:evBound E hi l.length j) (hij:i≤j) (hj:j≤l.length) (hu:X.P.underlying xt=some .string) (hx:ev E x=some (str l)):Does X E H (.slice xt x lo hi none) (Is (str (subl l i j)) H) :=
 Does.pureOp rfl (fun dst ty pos after g ρ w hρ => by
  have e:(ByteArray.mk ⟨l⟩).extract i j=ByteArray.mk ⟨subl l i j⟩:=by
   apply ByteArray.ext
   simp [subl,List.drop_take,List.extract_eq_take_drop]
  have hb1:(Instr.sliceBounds false l.length l.length (lo.map ρ) (hi.map ρ) none).run X.P w = .ok (i,j,l.length) w:=by
   unfold Instr.sliceBounds
   cases lo with
   | none =>
    cases h1
    cases hi with
    | none => cases h2; simp
    | some y =>
     obtain ⟨k2,z2,e2,rfl⟩:=h2
     simp [hρ _ _ e2,Instr.sliceBound,asIntOf,hj]
   | some x1 =>
    obtain ⟨k1,z1,e1,rfl⟩:=h1
    cases hi with
    | none => cases h2; simp [hρ _ _ e1,Instr.sliceBound,asIntOf,hij]
    | some y =>
     obtain ⟨k2,z2,e2,rfl⟩:=h2
     simp [hρ _ _ e1,hρ _ _ e2,Instr.sliceBound,asIntOf,hij,hj]
  have hsz:(ByteArray.mk ⟨l⟩).size=l.length:=rfl
  simp [str,execOp,hρ _ _ hx,Instr.sliceAt,Instr.slice,run_underlying hu,hsz,hb1,e])
theorem AtL.sliceS {xt:TypeId}{x:Operand}{lo hi:Option Operand}{l:List UInt8}(i j:Nat) (h1:evBound E lo 0 i) (h2:evBound E hi l.length j) (hij:i≤j) (hj:j≤l.length) (hu:X.P.underlying xt=some .string) (hg:Wd X ops E g) (hd:Nat.blt d X.n=true) (hx:ev E x=some (str l))
  (hk:AtL X ops os k ((d,str (subl l i j))::E) ds H) :
  AtL X ops (⟨some d,.slice xt x lo hi none,ty,pos,after,g⟩::os) k E ds H :=
 AtL.ofIs (Do.sliceS i j h1 h2 hij hj hu hx) hg hd hk
theorem Do.lenS {t:TypeId}{x:Operand}{l:List UInt8}(hu:X.P.underlying t=some .string) (hx:ev E x=some (str l)):Does X E H (.call ⟨.builtin .len,#[x],#[t]⟩) (Is (int (l.length:Int)) H) :=
 Does.pureOp rfl (fun dst ty pos after g ρ w hρ => by simp [str,execOp,resolve,invoke,builtin,hρ _ _ hx,Builtin.len_,run_underlying hu,goInt,za9])
theorem AtL.lenS {t:TypeId}{x:Operand}{l:List UInt8}(hu:X.P.underlying t=some .string) (hg:Wd X ops E g) (hd:Nat.blt d X.n=true) (hx:ev E x=some (str l)) (hk:AtL X ops os k ((d,int (l.length:Int))::E) ds H) :
  AtL X ops (⟨some d,.call ⟨.builtin .len,#[x],#[t]⟩,ty,pos,after,g⟩::os) k E ds H :=
 AtL.ofIs (Do.lenS hu hx) hg hd hk
theorem Do.lenL {t e:TypeId}{x:Operand}{A:Option Addr}{n c:Nat}(hu:X.P.underlying t=some (.slice e)) (hx:ev E x=some (.slice A n c)):Does X E H (.call ⟨.builtin .len,#[x],#[t]⟩) (Is (int (n:Int)) H) :=
 Does.pureOp rfl (fun dst ty pos after g ρ w hρ => by simp [execOp,resolve,invoke,builtin,hρ _ _ hx,Builtin.len_,run_underlying hu,goInt])
theorem AtL.lenL {t e:TypeId}{x:Operand}{A:Option Addr}{n c:Nat}(hu:X.P.underlying t=some (.slice e)) (hg:Wd X ops E g) (hd:Nat.blt d X.n=true) (hx:ev E x=some (.slice A n c)) (hk:AtL X ops os k ((d,int (n:Int))::E) ds H) :
  AtL X ops (⟨some d,.call ⟨.builtin .len,#[x],#[t]⟩,ty,pos,after,g⟩::os) k E ds H :=
 AtL.ofIs (Do.lenL hu hx) hg hd hk
theorem Do.min2 {ts:Array TypeId}{x y:Operand}{kk:IntKind}{a b:Int}(hx:ev E x=some (.int kk a)) (hy:ev E y=some (.int kk b)):Does X E H (.call ⟨.builtin .min,#[x,y],ts⟩) (Is (.int kk (if b < a then b else a)) H) :=
 Does.pureOp rfl (fun dst ty pos after g ρ w hρ => by simp [execOp,resolve,invoke,builtin,hρ _ _ hx,hρ _ _ hy,Builtin.min_,Builtin.min2,List.foldlM])
theorem AtL.min2 {ts:Array TypeId}{x y:Operand}{kk:IntKind}{a b:Int}(hg:Wd X ops E g) (hd:Nat.blt d X.n=true) (hx:ev E x=some (.int kk a)) (hy:ev E y=some (.int kk b)) (hk:AtL X ops os k ((d,.int kk (if b < a then b else a))::E) ds H) :
  AtL X ops (⟨some d,.call ⟨.builtin .min,#[x,y],ts⟩,ty,pos,after,g⟩::os) k E ds H :=
 AtL.ofIs (Do.min2 hx hy) hg hd hk
theorem Do.max2 {ts:Array TypeId}{x y:Operand}{kk:IntKind}{a b:Int}(hx:ev E x=some (.int kk a)) (hy:ev E y=some (.int kk b)):Does X E H (.call ⟨.builtin .max,#[x,y],ts⟩) (Is (.int kk (if a < b then b else a)) H) :=
 Does.pureOp rfl (fun dst ty pos after g ρ w hρ => by simp [execOp,resolve,invoke,builtin,hρ _ _ hx,hρ _ _ hy,Builtin.max_,Builtin.max2,List.foldlM])
theorem AtL.max2 {ts:Array TypeId}{x y:Operand}{kk:IntKind}{a b:Int}(hg:Wd X ops E g) (hd:Nat.blt d X.n=true) (hx:ev E x=some (.int kk a)) (hy:ev E y=some (.int kk b)) (hk:AtL X ops os k ((d,.int kk (if a < b then b else a))::E) ds H) :
  AtL X ops (⟨some d,.call ⟨.builtin .max,#[x,y],ts⟩,ty,pos,after,g⟩::os) k E ds H :=
 AtL.ofIs (Do.max2 hx hy) hg hd hk
structure Body (P:Program) (f:FuncId):Prop where
  is:∃ fn,P.funcs[f]? = some fn∧(fn.name == "runtime.NumGoroutine")=false∧fn.body.isNone=false
theorem zbt {P:Program}{f:FuncId}(h:Body P f) (args:Array Value) (w:World):(callFunc f args).run P w = .ok (.enter f args) w:=by
 obtain ⟨fn,h1,h2,h3⟩:=h.is
 cases hb:fn.body with
 | none => rw [hb] at h3; cases h3
 | some c => simp only [callFunc,Sem.run_bind,run_program,Result.andThen_ok,h1,h2,hb,Option.isNone_some,Bool.false_eq_true,if_false,Sem.run_pure]
def bodyB (P:Program) (f:FuncId):Bool:=match P.funcs[f]? with
 | some fn => !(fn.name == "runtime.NumGoroutine") && !fn.body.isNone
 | none => false
theorem Body.of {P:Program}{f:FuncId}(h:bodyB P f=true):Body P f:=by
 unfold bodyB at h
 split at h
 ·rename_i fn hf
  simp only [Bool.and_eq_true,Bool.not_eq_true'] at h
  exact ⟨fn,hf,h.1,h.2⟩
 ·cases h
section calls
variable {dst:Option Tmp}{R:Value→List Seg→Prop}
theorem Do.call {f:FuncId}{xs:Array Operand}{ts:Array TypeId}{args:List Value}(hb:Body X.P f) (hx:evs E xs.toList=some args) (hc:SCalls X.P f args X.w0 X.base H R):Does X E H (.call ⟨.value (.func f),xs,ts⟩) R :=
 Does.enter rfl (fun dst ty pos after g ρ w hρ => by
  have hf:ρ (.func f) = .func (.func f) #[] #[]:=hρ _ _ rfl
  simp [execOp,resolve,hf,Deferred.ofValue,zbb hρ hx,invoke,zbt hb]) hc
theorem AtL.call {f:FuncId}{xs:Array Operand}{ts:Array TypeId}{args:List Value}(hb:Body X.P f) (hg:Wd X ops E g) (hd:dstOk X.n dst=true) (hx:evs E xs.toList=some args) (hc:SCalls X.P f args X.w0 X.base H R)
  (hk:∀ v H',R v H'→AtL X ops os k (putE E dst v) ds H') :
  AtL X ops (⟨dst,.call ⟨.value (.func f),xs,ts⟩,ty,pos,after,g⟩::os) k E ds H :=
 AtL.of (Do.call hb hx hc) hg hd hk
theorem Do.callV {f:FuncId}{x:Operand}{u c:Array Value}{xs:Array Operand}{ts:Array TypeId}{args args' : List Value}(hb:Body X.P f) (hv:ev E x=some (.func (.func f) u c)) (hx:evs E xs.toList=some args) (ha:u.toList++args++c.toList=args') (hc:SCalls X.P f args' X.w0 X.base H R):Does X E H (.call ⟨.value x,xs,ts⟩) R :=
 Does.enter rfl (fun dst ty pos after g ρ w hρ => by
  subst ha
  have e:u++args.toArray++c=(u.toList++args++c.toList).toArray:=by
   apply Array.ext'
   simp
  simp only [List.append_assoc] at e ⊢
  simp [execOp,resolve,hρ _ _ hv,Deferred.ofValue,zbb hρ hx,invoke,zbt hb]) hc
theorem AtL.callV {f:FuncId}{x:Operand}{u c:Array Value}{xs:Array Operand}{ts:Array TypeId}{args args' : List Value}(hb:Body X.P f) (hg:Wd X ops E g) (hd:dstOk X.n dst=true) (hv:ev E x=some (.func (.func f) u c)) (hx:evs E xs.toList=some args)
  (ha:u.toList++args++c.toList=args') (hc:SCalls X.P f args' X.w0 X.base H R)
  (hk:∀ v H',R v H'→AtL X ops os k (putE E dst v) ds H') :
  AtL X ops (⟨dst,.call ⟨.value x,xs,ts⟩,ty,pos,after,g⟩::os) k E ds H :=
 AtL.of (Do.callV hb hv hx ha hc) hg hd hk
end calls
end
def Cell (w0:World) (base:Nat) (H:List Seg) (p:Addr) (v:Value):Prop:=∀ w,Sep w0 base w H→w.cell? p=some v
theorem zai (b off i:Nat):(⟨b,off,none⟩:Addr).add i=⟨b,off + i,none⟩:=by
 unfold Addr.add; split
 ·rename_i h; subst h; rfl
 ·rfl
theorem Sep.at_ {w0:World}{base:Nat}{w:World}{H:List Seg}(S:Sep w0 base w H) {i j:Nat}{s:Seg}{b:Nat}{o:Obj}(hi:H[i]? = some s) (hj:s[j]? = some (b,o)):w.heap[b]? = some o∧base≤b:=by
 have hm:(b,o) ∈ H.flatten:=List.mem_flatten.2 ⟨s,List.mem_iff_getElem?.2 ⟨i,hi⟩,List.mem_iff_getElem?.2 ⟨j,hj⟩⟩
 exact ⟨(S.mem _ hm).2,(S.mem _ hm).1⟩
section
variable {w0:World}{base:Nat}{H:List Seg}
theorem Cell.own {b k:Nat}{cs:Array Value}{e:TypeId}{fr:Nat×Nat}{v:Value}{s:Seg}(i j:Nat) (hi:H[i]? = some s) (hj:s[j]? = some (b,.cells cs e fr)) (hk:cs[k]? = some v):Cell w0 base H ⟨b,k,none⟩ v :=
 fun w S => by rw [cell_of_row w b k cs e fr (S.at_ hi hj).1]; exact hk
theorem Cell.skip {p:Addr}{v:Value}(n:Nat) (h:Cell w0 base (H.drop n) p v):Cell w0 base H p v:=fun w S => h w (S.pick [] n rfl)
end
structure Ty (α:Type) where
  val:α→Value
  sz:Nat
  ok:∀ x,(val x).cells.size=sz
  plain:∀ x c,c ∈ (val x).cells.toList→c.oneCell' = true
def Ty.cells {α:Type}(T:Ty α) (l:List α):List Value:=l.flatMap fun x => (T.val x).cells.toList
section ty
variable {α:Type}{T:Ty α}
theorem Ty.cells_len (l:List α):(T.cells l).length=l.length * T.sz:=by
 induction l with
 | nil => simp [Ty.cells]
 | cons x l ih =>
  simp only [Ty.cells,List.flatMap_cons,List.length_append,List.length_cons,Array.length_toList,T.ok] at ih ⊢
  rw [ih,Nat.add_mul]; omega
theorem Ty.cells_app (l r:List α):T.cells (l++r)=T.cells l++T.cells r:=by simp [Ty.cells]
theorem Ty.cells_get {l:List α}{i j:Nat}{x:α}{u:Value}(hx:l[i]? = some x) (hu:(T.val x).cells[j]? = some u):(T.cells l)[i * T.sz + j]? = some u:=by
 induction l generalizing i with
 | nil => simp at hx
 | cons y l ih =>
  have hcons:T.cells (y::l)=(T.val y).cells.toList++T.cells l:=by simp [Ty.cells]
  rw [hcons]
  have hly:(T.val y).cells.toList.length=T.sz:=by rw [Array.length_toList,T.ok]
  cases i with
  | zero =>
   simp only [List.getElem?_cons_zero,Option.some.injEq] at hx
   subst hx
   have hj:j < T.sz:=by rw [← T.ok y]; exact (Array.getElem?_eq_some_iff.1 hu).1
   rw [Nat.zero_mul,Nat.zero_add,List.getElem?_append_left (by omega),Array.getElem?_toList]
   exact hu
  | succ i =>
   simp only [List.getElem?_cons_succ] at hx
   have e:(i + 1) * T.sz + j=T.sz + (i * T.sz + j):=by rw [Nat.add_mul]; omega
   rw [e,List.getElem?_append_right (by omega),hly,Nat.add_sub_cancel_left]
   exact ih hx
theorem Ty.cells_plain {l:List α}:∀ c ∈ T.cells l,c.oneCell' = true:=by
 intro c hc
 obtain ⟨x,_,hx⟩:=List.mem_flatMap.1 hc
 exact T.plain x c hx
end ty
def tyB:Ty UInt8:={ val:=byt,sz:=1,ok:=fun _ => rfl,plain:=fun x c hc => by simp [byt,Value.cells] at hc; subst hc; rfl }
def tyI:Ty Int:={ val:=int,sz:=1,ok:=fun _ => rfl,plain:=fun x c hc => by simp [int,Value.cells] at hc; subst hc; rfl }
def tyS:Ty (List UInt8):={ val:=str,sz:=1,ok:=fun _ => rfl,plain:=fun x c hc => by simp [str,Value.cells] at hc; subst hc; rfl }
def frOut (fr:Nat×Nat) (n:Nat):Prop:=∀ j,j < n→(decide (fr.1≤j) && decide (j < fr.2))=false
theorem zao (n:Nat):frOut (0,0) n:=fun j _ => by simp
theorem frOut.mono {fr:Nat×Nat}{n m:Nat}(h:frOut fr n) (hm:m≤n):frOut fr m:=fun j hj => h j (Nat.lt_of_lt_of_le hj hm)
structure Rd {α:Type}(T:Ty α) (w0:World) (base:Nat) (H:List Seg) (A:Option Addr) (C:Nat) (l:List α):Prop where
  le:l.length≤C
  cap:C≤9223372036854775807
  nil:A=none→C=0
  cells:l≠[]→∃ b off,A=some ⟨b,off,none⟩∧∀ w,Sep w0 base w H→∀ j u,(T.cells l)[j]? = some u→w.cell? ⟨b,off + j,none⟩=some u
def OwnR {α:Type}(T:Ty α) (e:TypeId) (A:Option Addr) (l r:List α) (s:Seg):Prop :=
 (A=none∧l=[]∧r=[]∧s=[]) ∨
 ∃ g pre post fr,A=some ⟨g,pre.length * T.sz,none⟩∧s=[(g,.cells (T.cells (pre++l++r++post)).toArray e fr)]∧frOut fr ((pre++l++r++post).length * T.sz)∧l.length + r.length≤9223372036854775807
def Own {α:Type}(T:Ty α) (e:TypeId) (A:Option Addr) (C:Nat) (l:List α) (s:Seg):Prop:=∃ r,C=l.length + r.length∧OwnR T e A l r s
theorem OwnR.own {α:Type}{T:Ty α}{e:TypeId}{A:Option Addr}{l r:List α}{s:Seg}(h:OwnR T e A l r s):Own T e A (l.length + r.length) l s:=⟨r,rfl,h⟩
theorem Own.nil {α:Type}(T:Ty α) (e:TypeId):Own T e none 0 [] []:=⟨[],rfl,.inl ⟨rfl,rfl,rfl,rfl⟩⟩
section views
variable {α:Type}{T:Ty α}{w0:World}{base:Nat}{H:List Seg}{A:Option Addr}{C:Nat}{l r:List α}{e:TypeId}{s:Seg}
theorem Rd.skip (n:Nat) (h:Rd T w0 base (H.drop n) A C l):Rd T w0 base H A C l :=
 ⟨h.le,h.cap,h.nil,fun hl => let ⟨b,off,hA,hc⟩:=h.cells hl; ⟨b,off,hA,fun w S => hc w (S.pick [] n rfl)⟩⟩
theorem Rd.nil_:Rd T w0 base H none 0 []:=⟨Nat.le_refl _,by omega,fun _ => rfl,fun h => absurd rfl h⟩
theorem OwnR.rd (h:OwnR T e A l r s) {i:Nat}(hi:H[i]? = some s):Rd T w0 base H A (l.length + r.length) l:=by
 rcases h with ⟨rfl,rfl,rfl,rfl⟩ | ⟨g,pre,post,fr,rfl,rfl,hf,hm⟩
 ·exact Rd.nil_
 ·refine ⟨by omega,hm,(fun h => by cases h),fun _ => ⟨g,_,rfl,fun w S j u hu => ?_⟩⟩
  have hb:=(S.at_ hi (j:=0) rfl).1
  rw [cell_of_row w g _ _ e fr hb]
  have hj:=(List.getElem?_eq_some_iff.1 hu).1
  rw [List.getElem?_toArray,Ty.cells_app,Ty.cells_app,Ty.cells_app,← Ty.cells_len (T:=T) pre]
  rw [List.append_assoc,List.append_assoc,List.getElem?_append_right (Nat.le_add_right _ _),Nat.add_sub_cancel_left,List.getElem?_append_left hj]
  exact hu
theorem Own.rd (h:Own T e A C l s) {i:Nat}(hi:H[i]? = some s):Rd T w0 base H A C l:=by
 obtain ⟨r,rfl,h⟩:=h
 exact h.rd hi
theorem Own.cap_le (h:Own T e A C l s):C≤9223372036854775807:=by
 obtain ⟨r,rfl,h⟩:=h
 rcases h with ⟨_,rfl,rfl,_⟩ | ⟨_,_,_,_,_,_,_,h⟩
 ·simp
 ·exact h
theorem Own.le_cap (h:Own T e A C l s):l.length≤C:=by
 obtain ⟨r,rfl,h⟩:=h
 omega
def eaddr (A:Option Addr) (k:Nat):Addr:=(A.getD default).add k
theorem Rd.cell_at (h:Rd T w0 base H A C l) {i j:Nat}{x:α}{u:Value}(hx:l[i]? = some x) (hu:(T.val x).cells[j]? = some u):Cell w0 base H ((eaddr A (i * T.sz)).add j) u:=by
 obtain ⟨b,off,rfl,hc⟩:=h.cells (by rintro rfl; simp at hx)
 intro w S
 simp only [eaddr,Option.getD_some,zai]
 rw [Nat.add_assoc]
 exact hc w S _ u (Ty.cells_get hx hu)
theorem Rd.cell0 (h:Rd T w0 base H A C l) {i:Nat}{x:α}(hx:l[i]? = some x) (h1:(T.val x).cells = #[T.val x]):Cell w0 base H (eaddr A (i * T.sz)) (T.val x) :=
 h.cell_at hx (j:=0) (by rw [h1]; rfl)
theorem getD_some {l:List α}{i:Nat}(d:α) (h:i < l.length):l[i]? = some (l.getD i d):=by
 rw [List.getElem?_eq_getElem h]; simp [List.getD,h]
end views
section
variable {X:Pt}{k:List Item}{E:Env}{ds:List Deferred}{H:List Seg}{ops:Array Oper}{os:List Oper}
  {d:Nat}{ty:TypeId}{pos:String}{after:Array Edge}{g:Option (Nat×Bool)}
def flatB (P:Program) (t:TypeId):Bool:=match P.underlying t with
 | some (.struct _) | some (.array _ _) | none => false
 | some _ => true
theorem zdN {P:Program}{t:TypeId}(h:flatB P t=true) (w:World):(isAgg t).run P w = .ok false w:=by
 unfold flatB at h
 cases hu:P.underlying t with
 | none => rw [hu] at h; cases h
 | some dd =>
  rw [hu] at h
  unfold isAgg
  simp only [Sem.run_bind,run_underlying hu,Result.andThen_ok]
  cases dd <;> first | rfl | cases h
theorem Do.load {t:TypeId}{x:Operand}{p:Addr}{v:Value}(hf:flatB X.P t=true) (hx:ev E x=some (.pointer (some p))) (hc:Cell X.w0 X.base H p v):Does X E H (.load t x) (Is v H) :=
 Does.core rfl (fun dst ty pos after g ρ w hρ S => ⟨v,w,H,by
  simp [execOp,hρ _ _ hx,Instr.loadAt,Instr.sureAddr,loadVar,zdN hf,hc w S],S,rfl,rfl⟩)
theorem AtL.load {t:TypeId}{x:Operand}{p:Addr}{v:Value}(hf:flatB X.P t=true) (hg:Wd X ops E g) (hd:Nat.blt d X.n=true) (hx:ev E x=some (.pointer (some p))) (hc:Cell X.w0 X.base H p v) (hk:AtL X ops os k ((d,v)::E) ds H) :
  AtL X ops (⟨some d,.load t x,ty,pos,after,g⟩::os) k E ds H:=AtL.ofIs (Do.load hf hx hc) hg hd hk
def aggN (P:Program) (t:TypeId):Option Nat:=match P.underlying t with
 | some (.struct _) | some (.array _ _) => (P.info? t).map (·.size)
 | _ => none
theorem zcf {P:Program}{t n:Nat}(h:aggN P t=some n) (w:World):(isAgg t).run P w = .ok true w∧(sizeOf t).run P w = .ok n w:=by
 unfold aggN at h
 cases hu:P.underlying t with
 | none => rw [hu] at h; cases h
 | some dd =>
  rw [hu] at h
  cases hi:P.info? t with
  | none => rw [hi] at h; cases dd <;> simp at h
  | some i =>
   rw [hi] at h
   constructor
   ·unfold isAgg
    simp only [Sem.run_bind,run_underlying hu,Result.andThen_ok]
    cases dd <;> first | rfl | (simp at h)
   ·cases dd <;> simp at h <;> simp [sizeOf,typeInfo,hi,h]
theorem Do.loadN {t n:Nat}{x:Operand}{p:Addr}{cs:List Value}(hf:aggN X.P t=some n) (hx:ev E x=some (.pointer (some p))) (hn:cs.length=n) (hc:∀ j v,cs[j]? = some v→Cell X.w0 X.base H (p.add j) v):Does X E H (.load t x) (Is (.agg cs.toArray) H) :=
 Does.core rfl (fun dst ty pos after g ρ w hρ S => ⟨.agg cs.toArray,w,H,by
  subst hn
  simp [execOp,hρ _ _ hx,Instr.loadAt,Instr.sureAddr,loadVar,(zcf hf w).1,(zcf hf w).2,run_loadCells_list w p cs (fun j v hv => hc j v hv w S)],S,rfl,rfl⟩)
theorem AtL.loadN {t n:Nat}{x:Operand}{p:Addr}{cs:List Value}(hf:aggN X.P t=some n) (hg:Wd X ops E g) (hd:Nat.blt d X.n=true) (hx:ev E x=some (.pointer (some p))) (hn:cs.length=n)
  (hc:∀ j v,cs[j]? = some v→Cell X.w0 X.base H (p.add j) v) (hk:AtL X ops os k ((d,.agg cs.toArray)::E) ds H) :
  AtL X ops (⟨some d,.load t x,ty,pos,after,g⟩::os) k E ds H:=AtL.ofIs (Do.loadN hf hx hn hc) hg hd hk
theorem Do.loadE {α:Type}{T:Ty α}{t n i:Nat}{x:Operand}{A:Option Addr}{C:Nat}{l:List α}{y:α}{cs:Array Value}(hr:Rd T X.w0 X.base H A C l) (hy:l[i]? = some y) (hv:T.val y = .agg cs) (hf:aggN X.P t=some T.sz)
  (hx:ev E x=some (.pointer (some (eaddr A (i * T.sz))))):Does X E H (.load t x) (Is (T.val y) H):=by
 have hcs:(T.val y).cells=cs:=by rw [hv]; rfl
 have hn:=T.ok y
 rw [hcs] at hn
 have:=Do.loadN (X:=X) (E:=E) (H:=H) (cs:=cs.toList) hf hx (by simpa using hn) (fun j v hj => hr.cell_at hy (by rw [hcs]; simpa using hj))
 rw [hv]
 exact this
theorem AtL.loadE {α:Type}{T:Ty α}{t n i:Nat}{x:Operand}{A:Option Addr}{C:Nat}{l:List α}{y:α}{cs:Array Value}(hr:Rd T X.w0 X.base H A C l) (hy:l[i]? = some y) (hv:T.val y = .agg cs) (hf:aggN X.P t=some T.sz) (hg:Wd X ops E g) (hd:Nat.blt d X.n=true)
  (hx:ev E x=some (.pointer (some (eaddr A (i * T.sz))))) (hk:AtL X ops os k ((d,T.val y)::E) ds H):AtL X ops (⟨some d,.load t x,ty,pos,after,g⟩::os) k E ds H:=AtL.ofIs (Do.loadE (n:=n) hr hy hv hf hx) hg hd hk
def sizeN (P:Program) (t n:Nat):Bool:=match P.info? t with
 | some i => Nat.beq i.size n
 | none => false
theorem zbx {P:Program}{t n:Nat}(h:sizeN P t n=true) (w:World):(sizeOf t).run P w = .ok n w:=by
 unfold sizeN at h
 cases hi:P.info? t with
 | none => rw [hi] at h; cases h
 | some i =>
  rw [hi] at h
  simp [sizeOf,typeInfo,hi,Nat.eq_of_beq_eq_true h]
theorem zat (P:Program) (g o:Nat) (t:TypeId) (fr:Nat×Nat):∀ (vs:List Value) (i:Nat) (cur:Array Value) (w:World),w.heap[g]? = some (.cells cur t fr)→(∀ j,o + i≤j→j < o + i + vs.length→(decide (fr.1≤j) && decide (j < fr.2))=false) →
  o + i + vs.length≤cur.size→(∀ v ∈ vs,v.oneCell' = true) →
  (storeCells ⟨g,o,none⟩ vs i).run P w = .ok () (w.setRow g (cur.toList.take (o + i)++vs++cur.toList.drop (o + i + vs.length)).toArray)
 | [],i,cur,w,hg,_,_,_ => by
  simp only [storeCells,List.append_nil,List.length_nil,Nat.add_zero,List.take_append_drop,Array.toArray_toList]
  rw [setRow_self w g cur t fr hg]
  rfl
 | v::rest,i,cur,w,hg,hfz,hl,h1 => by
  have hi:o + i < cur.size:=by simp at hl; omega
  have hcell:w.cell? ⟨g,o + i,none⟩=some cur[o + i]:=by simp [World.cell?,hg,hi]
  have hfro:w.frozen? ⟨g,o + i,none⟩=false:=by
   have:=hfz (o + i) (Nat.le_refl _) (by simp)
   simpa only [World.frozen?,hg] using this
  have hst:(store ((⟨g,o,none⟩:Addr).add i) v).run P w = .ok () (w.setRow g (cur.setIfInBounds (o + i) v)):=by
   rw [zai,run_store P w _ v _ (h1 v (by simp)),hcell]
   simp [hfro,setCell_eq_setRow w g (o + i) cur t fr v hg]
  have ih:=zat P g o t fr rest (i + 1) (cur.setIfInBounds (o + i) v) (w.setRow g (cur.setIfInBounds (o + i) v)) (setRow_heap w g cur _ t _ hg)
   (fun j h1 h2 => hfz j (by omega) (by simp at h2 ⊢; omega)) (by simp at hl ⊢; omega) (fun x hx => h1 x (by simp [hx]))
  simp only [storeCells,Sem.run_bind,hst,Result.andThen_ok,ih,setRow_setRow]
  congr 3
  have e:=list_seg_step cur.toList (o + i) v rest (by simp at hl ⊢; omega)
  simpa [Array.toList_setIfInBounds,Nat.add_assoc] using e
theorem Sep.setRow {w0:World}{base:Nat}{w:World}(S:Sep w0 base w H) {i j:Nat}{s:Seg}{b:Nat}{cs:Array Value}{e:TypeId}{fr:Nat×Nat}(hi:H[i]? = some s) (hj:s[j]? = some (b,.cells cs e fr)) (cs' : Array Value) :
  Sep w0 base (w.setRow b cs') (H.set i (s.set j (b,.cells cs' e fr))) :=
 S.write hi hj _ rfl rfl rfl (by simp [World.setRow]) (setRow_heap w b cs cs' e fr (S.at_ hi hj).1) (fun k hk => setRow_other w b k cs' hk)
def putCells (cs:Array Value) (o:Nat) (vs:List Value):Array Value:=(cs.toList.take o++vs++cs.toList.drop (o + vs.length)).toArray
def noFr (fr:Nat×Nat) (o n:Nat):Bool:=Nat.ble fr.2 fr.1 || Nat.ble fr.2 o || Nat.ble (o + n) fr.1
theorem zfI {fr:Nat×Nat}{o n:Nat}(h:noFr fr o n=true) (j:Nat) (h1:o≤j) (h2:j < o + n):(decide (fr.1≤j) && decide (j < fr.2))=false:=by
 simp only [noFr,Bool.or_eq_true] at h
 rw [Bool.and_eq_false_iff,decide_eq_false_iff_not,decide_eq_false_iff_not]
 rcases h with (h | h) | h <;> have:=Nat.le_of_ble_eq_true h <;> omega
theorem Do.store {t n:Nat}{x y:Operand}{b o:Nat}{v:Value}{s:Seg}{cs:Array Value}{e:TypeId}{fr:Nat×Nat}{H' : List Seg}(i j:Nat) (hsz:sizeN X.P t n=true) (hx:ev E x=some (.pointer (some ⟨b,o,none⟩))) (hy:ev E y=some v)
  (hi:H[i]? = some s) (hj:s[j]? = some (b,.cells cs e fr)) (hn:v.cells.size=n) (h1:v.cells.toList.all (·.oneCell')=true) (ho:Nat.ble (o + n) cs.size=true) (hfr:noFr fr o n=true)
  (hH:H.set i (s.set j (b,.cells (putCells cs o v.cells.toList) e fr))=H'):Does X E H (.store t x y) (Is undef H') :=
 Does.coreU rfl (fun dst ty pos after g ρ w hρ S => by
  have hb:=(S.at_ hi hj).1
  have hl:v.cells.toList.length=n:=by simpa using hn
  have ho:=Nat.le_of_ble_eq_true ho
  have hst:=zat X.P b o e fr v.cells.toList 0 cs w hb (fun j h1 h2 => zfI hfr j (by omega) (by rw [hl] at h2; omega)) (by rw [hl]; omega) (fun u hu => List.all_eq_true.1 h1 u hu)
  refine ⟨_,H',?_,hH ▸ S.setRow hi hj _,rfl,rfl⟩
  simp only [Nat.add_zero] at hst
  simp [execOp,hρ _ _ hx,hρ _ _ hy,Instr.storeAt,Instr.sureAddr,storeVar,zbx hsz,hn]
  rw [hst]
  rfl)
theorem AtL.store {t n:Nat}{x y:Operand}{b o:Nat}{v:Value}{s:Seg}{cs:Array Value}{e:TypeId}{fr:Nat×Nat}{H' : List Seg}(i j:Nat) (hsz:sizeN X.P t n=true) (hg:Wd X ops E g) (hx:ev E x=some (.pointer (some ⟨b,o,none⟩))) (hy:ev E y=some v)
  (hi:H[i]? = some s) (hj:s[j]? = some (b,.cells cs e fr)) (hn:v.cells.size=n) (h1:v.cells.toList.all (·.oneCell')=true) (ho:Nat.ble (o + n) cs.size=true) (hfr:noFr fr o n=true)
  (hH:H.set i (s.set j (b,.cells (putCells cs o v.cells.toList) e fr))=H') (hk:AtL X ops os k E ds H'):AtL X ops (⟨none,.store t x y,ty,pos,after,g⟩::os) k E ds H :=
 AtL.of (Do.store i j hsz hx hy hi hj hn h1 ho hfr hH) hg rfl fun _ _ ⟨_,hH⟩ => by subst hH; exact hk
theorem Does.new {op:Op}{cs:Array Value}{e:TypeId}{fv:Nat→Value}(hnd:Op.isDefer op=false)
  (hr:∀ dst ty pos after g ρ w,(∀ x v,ev E x=some v→ρ x=v)→Sep X.w0 X.base w H→(execOp ρ ⟨dst,op,ty,pos,after,g⟩).run X.P w = .ok (.value (fv w.heap.size)) (w.alloc (.cells cs e))) :
  Does X E H op (fun v H' => ∃ b,v=fv b∧H' = [(b,.cells cs e (0,0))]::H) :=
 Does.core hnd fun dst ty pos after g ρ w hρ S => ⟨_,_,_,hr dst ty pos after g ρ w hρ S,S.alloc _,_,rfl,rfl⟩
def zeroV (P:Program) (t:TypeId):Option Value:=match P.info? t with
 | some i => i.zero
 | none => none
theorem zcr {P:Program}{t:TypeId}{z:Value}(h:zeroV P t=some z) (w:World):(zeroValue t).run P w = .ok z w:=by
 unfold zeroV at h
 cases hi:P.info? t with
 | none => rw [hi] at h; cases h
 | some i =>
  rw [hi] at h
  have h:i.zero=some z:=h
  simp [zeroValue,typeInfo,hi,h]
theorem Do.alloc {e:TypeId}{z:Value}{cs:Array Value}(hz:zeroV X.P e=some z) (hcs:z.cells=cs):Does X E H (.alloc e) (fun v H' => ∃ b,v = .pointer (some ⟨b,0,none⟩)∧H' = [(b,.cells cs e (0,0))]::H) :=
 Does.new (fv:=fun b => .pointer (some ⟨b,0,none⟩)) rfl (fun dst ty pos after g ρ w hρ S => by
  subst hcs
  simp [execOp,Instr.alloc,zcr hz,newVar,newRow])
theorem AtL.alloc {e:TypeId}{z:Value}{cs:Array Value}(hz:zeroV X.P e=some z) (hcs:z.cells=cs) (hg:Wd X ops E g) (hd:Nat.blt d X.n=true) (hk:∀ b,AtL X ops os k ((d,.pointer (some ⟨b,0,none⟩))::E) ds ([(b,.cells cs e (0,0))]::H)) :
  AtL X ops (⟨some d,.alloc e,ty,pos,after,g⟩::os) k E ds H:=AtL.of (Do.alloc hz hcs) hg hd fun _ _ ⟨b,hv,hH⟩ => by subst hv; subst hH; exact hk b
theorem Do.box {e:TypeId}{x:Operand}{v:Value}{cs:Array Value}(hcs:v.cells=cs) (hx:ev E x=some v):Does X E H (.box e x) (fun v H' => ∃ b,v = .pointer (some ⟨b,0,none⟩)∧H' = [(b,.cells cs e (0,0))]::H) :=
 Does.new (fv:=fun b => .pointer (some ⟨b,0,none⟩)) rfl (fun dst ty pos after g ρ w hρ S => by
  subst hcs
  simp [execOp,Instr.box,hρ _ _ hx,newVar,newRow])
theorem AtL.box {e:TypeId}{x:Operand}{v:Value}{cs:Array Value}(hcs:v.cells=cs) (hg:Wd X ops E g) (hd:Nat.blt d X.n=true) (hx:ev E x=some v) (hk:∀ b,AtL X ops os k ((d,.pointer (some ⟨b,0,none⟩))::E) ds ([(b,.cells cs e (0,0))]::H)) :
  AtL X ops (⟨some d,.box e x,ty,pos,after,g⟩::os) k E ds H:=AtL.of (Do.box hcs hx) hg hd fun _ _ ⟨b,hv,hH⟩ => by subst hv; subst hH; exact hk b
def fillL (place:Nat→Option (Nat×Nat)):List Value→List (Nat×Value)→Option (List Value)
 | cells,[] => some cells
 | cells,(i,v)::rest => match place i with
  | none => none
  | some (off,size) => match Nat.beq v.cells.toList.length size && Nat.ble (off + size) cells.length with
   | true => fillL place (cells.take off++(v.cells.toList++cells.drop (off + size))) rest
   | false => none
theorem fold_set (vs:List Value):∀ (cs:Array Value) (off i:Nat),off + i + vs.length≤cs.size→(vs.zipIdx i).foldl (fun (cs:Array Value) (p:Value×Nat) => cs.setIfInBounds (off + p.2) p.1) cs=(cs.toList.take (off + i)++(vs++cs.toList.drop (off + i + vs.length))).toArray:=by
 induction vs with
 | nil => intro cs off i h; apply Array.ext'; simp
 | cons v vs ih =>
  intro cs off i h
  rw [List.zipIdx_cons,List.foldl_cons,ih _ off (i + 1) (by simp at h ⊢; omega)]
  apply Array.ext'
  have hlt:off + i < cs.toList.length:=by simp at h ⊢; omega
  simp only [Array.toList_setIfInBounds,List.cons_append,List.length_cons]
  rw [List.set_eq_take_append_cons_drop,if_pos hlt]
  have hl:(cs.toList.take (off + i)).length=off + i:=by rw [List.length_take]; omega
  rw [show off + (i + 1)=(cs.toList.take (off + i)++[v]).length from by rw [List.length_append,hl]; simp; omega]
  rw [show cs.toList.take (off + i)++v::cs.toList.drop (off + i + 1)=(cs.toList.take (off + i)++[v])++cs.toList.drop (off + i + 1) from by simp]
  rw [List.take_left,List.drop_append]
  simp only [List.length_append,hl,List.length_cons,List.length_nil,Nat.zero_add,List.append_assoc,List.singleton_append]
  congr 3
  rw [List.drop_eq_nil_of_le (by simp [hl]),List.nil_append,List.drop_drop]
  congr 1
  omega
theorem zfY {place:Nat→Option (Nat×Nat)}{cells:List Value}{ps:List (Nat×Value)}{cs:List Value}(h:fillL place cells ps=some cs):Instr.fill place cells.toArray ps=some cs.toArray:=by
 induction ps generalizing cells with
 | nil => simp only [fillL,Option.some.injEq] at h; subst h; rfl
 | cons p ps ih =>
  obtain ⟨i,v⟩:=p
  unfold fillL at h
  unfold Instr.fill
  cases hp:place i with
  | none => rw [hp] at h; cases h
  | some os =>
   obtain ⟨off,size⟩:=os
   rw [hp] at h
   simp only at h ⊢
   cases hc:(Nat.beq v.cells.toList.length size && Nat.ble (off + size) cells.length) with
   | false => rw [hc] at h; cases h
   | true =>
    rw [hc] at h
    simp only at h
    rw [Bool.and_eq_true] at hc
    have h1:v.cells.size=size:=by simpa using Nat.eq_of_beq_eq_true hc.1
    have h2:=Nat.le_of_ble_eq_true hc.2
    rw [if_neg (by simp [h1]; omega)]
    rw [← ih h]
    congr 1
    have:=fold_set v.cells.toList cells.toArray off 0 (by simp [h1]; omega)
    simp only [Nat.add_zero,Array.length_toList,h1] at this
    rw [← this,← Array.foldl_toList,Array.toList_zipIdx]
def layOf (P:Program) (t:TypeId):Option (List (Nat×Nat)×List Value):=match P.underlying t with
 | some (.struct fs) => match fs.toList.mapM (fun f => (P.info? f.type).map fun i => (f.offset,i.size)),zeroV P t with
  | some pl,some z => some (pl,z.cells.toList)
  | _,_ => none
 | _ => none
theorem places_run {P:Program}{w:World}{fs:List Field}{pl:List (Nat×Nat)}(h:fs.mapM (fun f => (P.info? f.type).map fun i => (f.offset,i.size))=some pl) :
  (fs.mapM (m:=Sem) fun f => do pure (f.offset,← sizeOf f.type)).run P w = .ok pl w:=by
 induction fs generalizing pl with
 | nil => simp at h; subst h; rfl
 | cons f fs ih =>
  rw [List.mapM_cons] at h ⊢
  cases hi:P.info? f.type with
  | none => rw [hi] at h; simp at h
  | some i =>
   rw [hi] at h
   cases hr:fs.mapM (fun f => (P.info? f.type).map fun i => (f.offset,i.size)) with
   | none => rw [hr] at h; simp at h
   | some q =>
    rw [hr] at h
    simp at h
    subst h
    have:=ih hr
    simp only [bind_pure_comp] at this ⊢
    simp [sizeOf,typeInfo,hi] at this ⊢
    simp [this]
def evsP (E:Env):List (Nat×Operand)→Option (List (Nat×Value))
 | [] => some []
 | (i,x)::xs => match ev E x with
  | some v => (evsP E xs).map ((i,v)::·)
  | none => none
theorem zd9 {xs:List (Nat×Operand)}{vs:List (Nat×Value)}{ρ:Operand→Value}(hρ:∀ x v,ev E x=some v→ρ x=v) (h:evsP E xs=some vs):xs.map (fun p => (p.1,ρ p.2))=vs:=by
 induction xs generalizing vs with
 | nil => simpa [evsP] using h
 | cons p xs ih =>
  obtain ⟨i,x⟩:=p
  simp only [evsP] at h
  cases hx:ev E x with
  | none => rw [hx] at h; cases h
  | some v =>
   rw [hx] at h
   cases hr:evsP E xs with
   | none => rw [hr] at h; cases h
   | some us =>
    rw [hr] at h
    simp only [Option.map_some,Option.some.injEq] at h
    subst h
    rw [List.map_cons,hρ _ _ hx,ih hr]
theorem build_run {P:Program}{t:TypeId}{pl:List (Nat×Nat)}{z cs:List Value}{ps:List (Nat×Value)}(hl:layOf P t=some (pl,z)) (hf:fillL (fun i => pl[i]?) z ps=some cs) (w:World):(Instr.build t ps.toArray).run P w = .ok (.agg cs.toArray) w:=by
 unfold layOf at hl
 cases hu:P.underlying t with
 | none => rw [hu] at hl; cases hl
 | some dd =>
  rw [hu] at hl
  cases dd with
  | struct fs =>
   simp only at hl
   cases hp:fs.toList.mapM (fun f => (P.info? f.type).map fun i => (f.offset,i.size)) with
   | none => rw [hp] at hl; simp at hl
   | some q =>
    cases hz:zeroV P t with
    | none => rw [hp,hz] at hl; simp at hl
    | some z' =>
     rw [hp,hz] at hl
     simp at hl
     obtain ⟨rfl,rfl⟩:=hl
     have:=places_run (w:=w) hp
     have hm:(fs.mapM (m:=Sem) fun f => do pure (f.offset,← sizeOf f.type)).run P w = .ok q.toArray w:=by
      rw [Array.mapM_eq_mapM_toList]
      simp only [Sem.run_map,this,Result.andThen_ok]
     unfold Instr.build
     simp only [Sem.run_bind,zcr hz,run_underlying hu,Result.andThen_ok] at hm ⊢
     rw [hm]
     have hf2:=zfY hf
     have hf3:Instr.fill (fun i => q.toArray[i]?) z'.cells ps=some cs.toArray:=by
      rw [← hf2]
      congr 1
      funext i
      rw [List.getElem?_toArray]
     simp only [Result.andThen_ok,hf3,Sem.run_pure]
  | _ => simp at hl
theorem Do.build {t:TypeId}{ps:Array (Nat×Operand)}{vs:List (Nat×Value)}{pl:List (Nat×Nat)}{z cs:List Value}(hl:layOf X.P t=some (pl,z)) (hx:evsP E ps.toList=some vs) (hf:fillL (fun i => pl[i]?) z vs=some cs):Does X E H (.build t ps) (Is (.agg cs.toArray) H) :=
 Does.pureOp rfl (fun dst ty pos after g ρ w hρ => by
  have e:(ps.map fun p => (p.1,ρ p.2))=vs.toArray:=by
   apply Array.ext'
   rw [Array.toList_map]
   exact zd9 hρ hx
  have hb:=build_run hl hf w
  rw [← e] at hb
  simp only [execOp,Sem.run_bind,hb,Result.andThen_ok,Sem.run_pure])
theorem AtL.build {t:TypeId}{ps:Array (Nat×Operand)}{vs:List (Nat×Value)}{pl:List (Nat×Nat)}{z cs:List Value}(hl:layOf X.P t=some (pl,z)) (hg:Wd X ops E g) (hd:Nat.blt d X.n=true) (hx:evsP E ps.toList=some vs) (hf:fillL (fun i => pl[i]?) z vs=some cs)
  (hk:AtL X ops os k ((d,.agg cs.toArray)::E) ds H) :
  AtL X ops (⟨some d,.build t ps,ty,pos,after,g⟩::os) k E ds H :=
 AtL.ofIs (Do.build hl hx hf) hg hd hk
theorem rep_get {l:List Value}{n i:Nat}(hi:i < n * l.length):((List.replicate n l).flatten)[i]? = l[i % l.length]?:=by
 induction n generalizing i with
 | zero => simp at hi
 | succ n ih =>
  rw [List.replicate_succ,List.flatten_cons]
  have hl:0 < l.length:=by
   rcases Nat.eq_zero_or_pos l.length with h | h
   ·rw [h] at hi; simp at hi
   ·exact h
  rcases Nat.lt_or_ge i l.length with h | h
  ·rw [List.getElem?_append_left h,Nat.mod_eq_of_lt h]
  ·rw [List.getElem?_append_right h,ih (by rw [Nat.add_mul] at hi; omega),← Nat.mod_eq_sub_mod h]
theorem zdq (z:Array Value) (n:Nat):(Array.range (n * z.size)).map (fun i => z[i % z.size]!)=((List.replicate n z.toList).flatten).toArray:=by
 apply Array.ext'
 apply List.ext_getElem?
 intro i
 rw [Array.toList_map,Array.toList_range,List.getElem?_map]
 rcases Nat.lt_or_ge i (n * z.size) with h | h
 ·rw [List.getElem?_range h]
  show _=((List.replicate n z.toList).flatten)[i]?
  rw [rep_get (by simpa using h)]
  have hs:0 < z.size:=by
   rcases Nat.eq_zero_or_pos z.size with h' | h'
   ·rw [h'] at h; simp at h
   ·exact h'
  have hm:=Nat.mod_lt i hs
  simp [getElem!_def,hm]
 ·rw [List.getElem?_eq_none (by simpa using h)]
  rw [List.getElem?_eq_none (by simpa using h)]
  rfl
theorem Do.buildSlice {t e n sz:Nat}{ps:Array (Nat×Operand)}{vs:List (Nat×Value)}{z:Value}{cs:List Value}(hu:X.P.underlying t=some (.slice e)) (hz:zeroV X.P e=some z) (hs:sizeN X.P e sz=true) (hzs:Nat.beq z.cells.toList.length sz=true) (hn:Nat.ble (n * sz) 16777216=true)
  (hx:evsP E ps.toList=some vs) (hf:fillL (fun i => some (i * sz,sz)) ((List.replicate n z.cells.toList).flatten) vs=some cs):Does X E H (.buildSlice t n ps) (fun v H' => ∃ b,v = .slice (some ⟨b,0,none⟩) n n∧H' = [(b,.cells cs.toArray e (0,0))]::H) :=
 Does.new (fv:=fun b => .slice (some ⟨b,0,none⟩) n n) rfl (fun dst ty pos after g ρ w hρ S => by
  have ep:(ps.map fun p => (p.1,ρ p.2))=vs.toArray:=by
   apply Array.ext'
   rw [Array.toList_map]
   exact zd9 hρ hx
  have hn:=Nat.le_of_ble_eq_true hn
  have hzz:z.cells.size=sz:=by simpa using Nat.eq_of_beq_eq_true hzs
  have hff:=zfY hf
  have hb:(Instr.buildSlice t n vs.toArray).run X.P w = .ok (.slice (some ⟨w.heap.size,0,none⟩) n n) (w.alloc (.cells cs.toArray e)):=by
   unfold Instr.buildSlice
   simp only [Sem.run_bind,run_underlying hu,Result.andThen_ok,zbx hs]
   rw [if_neg (by simpa using hn)]
   by_cases h0:n * sz=0
   ·rw [if_pos h0]
    have he:(List.replicate n z.cells.toList).flatten=[]:=by
     apply List.eq_nil_of_length_eq_zero
     rw [List.length_flatten,List.map_replicate,List.sum_replicate_nat]
     rw [Array.length_toList,hzz]; exact h0
    rw [he] at hff
    have e0:∀ f:Nat→Value,(Array.range 0).map f = #[]:=fun f => by
     have:Array.range 0 = #[]:=by simp [Array.range]
     rw [this]; simp
    simp only [Sem.run_bind,Result.andThen_ok,Sem.run_pure,h0,e0,hff,newRow,run_newObj]
    rfl
   ·rw [if_neg h0]
    have hr:=zdq z.cells n
    rw [hzz] at hr
    simp only [Sem.run_bind,Result.andThen_ok,Sem.run_pure,zcr hz,hzz,hr,hff,newRow,run_newObj]
    rfl
  rw [← ep] at hb
  simp only [execOp,Sem.run_bind,hb,Result.andThen_ok,Sem.run_pure])
theorem AtL.buildSlice {t e n sz:Nat}{ps:Array (Nat×Operand)}{vs:List (Nat×Value)}{z:Value}{cs:List Value}(hu:X.P.underlying t=some (.slice e)) (hz:zeroV X.P e=some z) (hs:sizeN X.P e sz=true) (hzs:Nat.beq z.cells.toList.length sz=true) (hn:Nat.ble (n * sz) 16777216=true) (hg:Wd X ops E g) (hd:Nat.blt d X.n=true)
  (hx:evsP E ps.toList=some vs) (hf:fillL (fun i => some (i * sz,sz)) ((List.replicate n z.cells.toList).flatten) vs=some cs)
  (hk:∀ b,AtL X ops os k ((d,.slice (some ⟨b,0,none⟩) n n)::E) ds ([(b,.cells cs.toArray e (0,0))]::H)):AtL X ops (⟨some d,.buildSlice t n ps,ty,pos,after,g⟩::os) k E ds H :=
 AtL.of (Do.buildSlice hu hz hs hzs hn hx hf) hg hd fun _ _ ⟨b,hv,hH⟩ => by subst hv; subst hH; exact hk b
def fieldOff (P:Program) (s f:Nat):Option Nat:=match P.underlying s with
 | some (.struct fs) => match fs[f]? with
  | some fd => match P.info? fd.type with
   | some i => if Nat.beq i.size 0 then none else some fd.offset
   | none => none
  | none => none
 | _ => none
theorem fieldOff_run {P:Program}{s f o:Nat}(h:fieldOff P s f=some o) (p:Addr) (w:World):(Instr.fieldAt s (.pointer (some p)) f).run P w = .ok (.pointer (some (p.add o))) w:=by
 unfold fieldOff at h
 cases hu:P.underlying s with
 | none => rw [hu] at h; cases h
 | some dd =>
  rw [hu] at h
  cases dd with
  | struct fs =>
   simp only at h
   cases hf:fs[f]? with
   | none => rw [hf] at h; cases h
   | some fd =>
    rw [hf] at h
    simp only at h
    cases hi:P.info? fd.type with
    | none => rw [hi] at h; cases h
    | some i =>
     rw [hi] at h
     simp only at h
     split at h
     ·cases h
     ·rename_i hne
      cases h
      have:¬ i.size=0:=by rintro e; rw [e] at hne; exact hne rfl
      simp [Instr.fieldAt,run_underlying hu,hf,Instr.sureAddr,fieldPlace,sizeOf,typeInfo,hi,this]
  | _ => simp at h
theorem Do.fieldAddr {s f o:Nat}{x:Operand}{p:Addr}(ho:fieldOff X.P s f=some o) (hx:ev E x=some (.pointer (some p))):Does X E H (.fieldAddr s x f) (Is (.pointer (some (p.add o))) H) :=
 Does.pureOp rfl (fun dst ty pos after g ρ w hρ => by simp [execOp,hρ _ _ hx,fieldOff_run ho])
theorem AtL.fieldAddr {s f o:Nat}{x:Operand}{p:Addr}(ho:fieldOff X.P s f=some o) (hg:Wd X ops E g) (hd:Nat.blt d X.n=true) (hx:ev E x=some (.pointer (some p))) (hk:AtL X ops os k ((d,.pointer (some (p.add o)))::E) ds H) :
  AtL X ops (⟨some d,.fieldAddr s x f,ty,pos,after,g⟩::os) k E ds H :=
 AtL.ofIs (Do.fieldAddr ho hx) hg hd hk
theorem Do.fieldAddrB {s f o b q r:Nat}{x:Operand}(ho:fieldOff X.P s f=some o) (hx:ev E x=some (.pointer (some ⟨b,q,none⟩))) (hr:q + o=r):Does X E H (.fieldAddr s x f) (Is (.pointer (some ⟨b,r,none⟩)) H):=by
 have:=Do.fieldAddr (X:=X) (E:=E) (H:=H) ho hx
 rw [zai,hr] at this
 exact this
theorem AtL.fieldAddrB {s f o b q r:Nat}{x:Operand}(ho:fieldOff X.P s f=some o) (hg:Wd X ops E g) (hd:Nat.blt d X.n=true) (hx:ev E x=some (.pointer (some ⟨b,q,none⟩))) (hr:q + o=r) (hk:AtL X ops os k ((d,.pointer (some ⟨b,r,none⟩))::E) ds H) :
  AtL X ops (⟨some d,.fieldAddr s x f,ty,pos,after,g⟩::os) k E ds H:=AtL.ofIs (Do.fieldAddrB ho hx hr) hg hd hk
def fieldGet (P:Program) (s f:Nat) (cs:Array Value):Option Value:=match P.underlying s with
 | some (.struct fs) => match fs[f]? with
  | some fd => if flatB P fd.type then cs[fd.offset]? else match aggN P fd.type with
   | some n => some (.agg (cs.extract fd.offset (fd.offset + n)))
   | none => none
  | none => none
 | _ => none
theorem fieldGet_run {P:Program}{s f:Nat}{cs:Array Value}{v:Value}(h:fieldGet P s f cs=some v) (w:World):(Instr.field s (.agg cs) f).run P w = .ok v w:=by
 unfold fieldGet at h
 cases hu:P.underlying s with
 | none => rw [hu] at h; cases h
 | some dd =>
  rw [hu] at h
  cases dd with
  | struct fs =>
   simp only at h
   cases hf:fs[f]? with
   | none => rw [hf] at h; cases h
   | some fd =>
    rw [hf] at h
    simp only at h
    split at h
    ·rename_i hfl
     simp [Instr.field,run_underlying hu,hf,asAgg,part,zdN hfl,h]
    ·split at h
     ·rename_i n hn
      cases h
      simp [Instr.field,run_underlying hu,hf,asAgg,part,(zcf hn w).1,(zcf hn w).2]
     ·cases h
  | _ => simp at h
theorem Do.field {s f:Nat}{x:Operand}{cs:Array Value}{v:Value}(hx:ev E x=some (.agg cs)) (hf:fieldGet X.P s f cs=some v):Does X E H (.field s x f) (Is (v) H) :=
 Does.pureOp rfl (fun dst ty pos after g ρ w hρ => by simp [execOp,hρ _ _ hx,fieldGet_run hf])
theorem AtL.field {s f:Nat}{x:Operand}{cs:Array Value}{v:Value}(hg:Wd X ops E g) (hd:Nat.blt d X.n=true) (hx:ev E x=some (.agg cs)) (hf:fieldGet X.P s f cs=some v) (hk:AtL X ops os k ((d,v)::E) ds H) :
  AtL X ops (⟨some d,.field s x f,ty,pos,after,g⟩::os) k E ds H :=
 AtL.ofIs (Do.field hx hf) hg hd hk
theorem Do.indexAddr {t e sz:Nat}{x ix:Operand}{A:Option Addr}{n C:Nat}{kk:IntKind}{i:Int}(j:Nat) (hu:X.P.underlying t=some (.slice e)) (hs:sizeN X.P e sz=true) (hx:ev E x=some (.slice A n C)) (hi:ev E ix=some (.int kk i)) (hij:i=(j:Int)) (hj:j < n) (hA:A≠none):Does X E H (.indexAddr t x ix) (Is (.pointer (some (eaddr A (j * sz)))) H) :=
 Does.pureOp rfl (fun dst ty pos after g ρ w hρ => by
  subst hij
  cases A with
  | none => exact absurd rfl hA
  | some a => simp [execOp,hρ _ _ hx,hρ _ _ hi,Instr.indexAt,asIntOf,run_underlying hu,hj,zbx hs,eaddr])
theorem AtL.indexAddr {t e sz:Nat}{x ix:Operand}{A:Option Addr}{n C:Nat}{kk:IntKind}{i:Int}(j:Nat) (hu:X.P.underlying t=some (.slice e)) (hs:sizeN X.P e sz=true) (hg:Wd X ops E g) (hd:Nat.blt d X.n=true) (hx:ev E x=some (.slice A n C)) (hi:ev E ix=some (.int kk i))
  (hij:i=(j:Int)) (hj:j < n) (hA:A≠none) (hk:AtL X ops os k ((d,.pointer (some (eaddr A (j * sz))))::E) ds H) :
  AtL X ops (⟨some d,.indexAddr t x ix,ty,pos,after,g⟩::os) k E ds H :=
 AtL.ofIs (Do.indexAddr j hu hs hx hi hij hj hA) hg hd hk
theorem Rd.ne_none {α:Type}{T:Ty α}{w0:World}{base:Nat}{A:Option Addr}{C:Nat}{l:List α}(h:Rd T w0 base H A C l) {j:Nat}(hj:j < l.length):A≠none:=by
 intro e
 have h1:=h.nil e
 have h2:=h.le
 omega
theorem Do.indexL {α:Type}{T:Ty α}{t e:Nat}{x ix:Operand}{A:Option Addr}{C:Nat}{l:List α}{kk:IntKind}{i:Int}(j:Nat) (hr:Rd T X.w0 X.base H A C l) (hu:X.P.underlying t=some (.slice e)) (hs:sizeN X.P e T.sz=true)
  (hx:ev E x=some (.slice A l.length C)) (hi:ev E ix=some (.int kk i)) (hij:i=(j:Int)) (hj:j < l.length):Does X E H (.indexAddr t x ix) (Is (.pointer (some (eaddr A (j * T.sz)))) H) :=
 Do.indexAddr j hu hs hx hi hij hj (hr.ne_none hj)
theorem AtL.indexL {α:Type}{T:Ty α}{t e:Nat}{x ix:Operand}{A:Option Addr}{C:Nat}{l:List α}{kk:IntKind}{i:Int}(j:Nat) (hr:Rd T X.w0 X.base H A C l) (hu:X.P.underlying t=some (.slice e)) (hs:sizeN X.P e T.sz=true) (hg:Wd X ops E g) (hd:Nat.blt d X.n=true)
  (hx:ev E x=some (.slice A l.length C)) (hi:ev E ix=some (.int kk i)) (hij:i=(j:Int)) (hj:j < l.length) (hk:AtL X ops os k ((d,.pointer (some (eaddr A (j * T.sz))))::E) ds H) :
  AtL X ops (⟨some d,.indexAddr t x ix,ty,pos,after,g⟩::os) k E ds H:=AtL.ofIs (Do.indexL j hr hu hs hx hi hij hj) hg hd hk
end
section ty
variable {α:Type}{T:Ty α}
theorem Ty.cells_drop (l:List α) (i:Nat) (hi:i≤l.length):T.cells (l.drop i)=(T.cells l).drop (i * T.sz):=by
 have h:T.cells l=T.cells (l.take i)++T.cells (l.drop i):=by rw [← Ty.cells_app,List.take_append_drop]
 have hl:(T.cells (l.take i)).length=i * T.sz:=by rw [Ty.cells_len,List.length_take,Nat.min_eq_left hi]
 rw [h,← hl,List.drop_left]
theorem Ty.cells_take (l:List α) (i:Nat) (hi:i≤l.length):T.cells (l.take i)=(T.cells l).take (i * T.sz):=by
 have h:T.cells l=T.cells (l.take i)++T.cells (l.drop i):=by rw [← Ty.cells_app,List.take_append_drop]
 have hl:(T.cells (l.take i)).length=i * T.sz:=by rw [Ty.cells_len,List.length_take,Nat.min_eq_left hi]
 rw [h,← hl,List.take_left]
theorem Ty.cells_subl (l:List α) (i j:Nat) (hij:i≤j) (hj:j≤l.length):T.cells (subl l i j)=((T.cells l).drop (i * T.sz)).take ((j - i) * T.sz):=by
 unfold subl
 rw [Ty.cells_take _ _ (by rw [List.length_drop]; omega),Ty.cells_drop _ _ (by omega)]
theorem Ty.cells_rep (n:Nat) (z:α):T.cells (List.replicate n z)=(List.replicate n (T.val z).cells.toList).flatten:=by
 simp [Ty.cells,List.flatMap_replicate]
end ty
theorem subl_nil {α:Type}(l:List α) (i:Nat):subl l i i=[]:=by simp [subl]
theorem zdG {α:Type}(l:List α) (j:Nat):subl l 0 j=l.take j:=by simp [subl]
theorem zcv {α:Type}(l:List α) (i:Nat):subl l i l.length=l.drop i:=by
 unfold subl
 exact List.take_of_length_le (by rw [List.length_drop]; exact Nat.le_refl _)
section bounds
variable {P:Program}{E:Env}{ρ:Operand→Value}
theorem zfm (hρ:∀ x v,ev E x=some v→ρ x=v) {lo hi mx:Option Operand}{n c i j m:Nat}(isS:Bool) (h1:evBound E lo 0 i) (h2:evBound E hi n j) (h3:evBound E mx c m) (hmx:mx.isSome=true→hi.isSome=true) (hij:i≤j) (hjm:j≤m) (hmc:m≤c) (w:World) :
  (Instr.sliceBounds isS n c (lo.map ρ) (hi.map ρ) (mx.map ρ)).run P w = .ok (i,j,m) w:=by
 unfold Instr.sliceBounds
 cases mx with
 | none =>
  cases h3
  cases lo with
  | none =>
   cases h1
   cases hi with
   | none => cases h2; simp
   | some y =>
    obtain ⟨k2,z2,e2,rfl⟩:=h2
    simp [hρ _ _ e2,Instr.sliceBound,asIntOf,hjm]
  | some x1 =>
   obtain ⟨k1,z1,e1,rfl⟩:=h1
   cases hi with
   | none => cases h2; simp [hρ _ _ e1,Instr.sliceBound,asIntOf,hij]
   | some y =>
    obtain ⟨k2,z2,e2,rfl⟩:=h2
    simp [hρ _ _ e1,hρ _ _ e2,Instr.sliceBound,asIntOf,hij,hjm]
 | some q =>
  obtain ⟨k3,z3,e3,rfl⟩:=h3
  cases hi with
  | none => simp at hmx
  | some y =>
   obtain ⟨k2,z2,e2,rfl⟩:=h2
   cases lo with
   | none =>
    cases h1
    simp [hρ _ _ e2,hρ _ _ e3,Instr.sliceBound,asIntOf,hjm,hmc]
   | some x1 =>
    obtain ⟨k1,z1,e1,rfl⟩:=h1
    simp [hρ _ _ e1,hρ _ _ e2,hρ _ _ e3,Instr.sliceBound,asIntOf,hjm,hmc,hij]
end bounds
theorem Rd.cut {α:Type}{T:Ty α}{w0:World}{base:Nat}{H:List Seg}{A:Option Addr}{C:Nat}{l:List α}(h:Rd T w0 base H A C l) {i j m:Nat}(hij:i≤j) (hj:j≤l.length) (hjm:j≤m) (hm:m≤C) :
  Rd T w0 base H (if m=i then A else A.map (·.add (i * T.sz))) (m - i) (subl l i j):=by
 refine ⟨by rw [zaA hj]; omega,by have:=h.cap; omega,?_,?_⟩
 ·intro e
  split at e
  ·omega
  ·have:A=none:=by cases A <;> simp_all
   have:=h.nil this
   omega
 ·intro hne
  have hlt:i < j:=by
   rcases Nat.lt_or_ge i j with h | h
   ·exact h
   ·have:i=j:=by omega
    subst this
    exact absurd (subl_nil l i) hne
  obtain ⟨b,off,rfl,hc⟩:=h.cells (by rintro rfl; simp at hj; omega)
  rw [if_neg (by omega)]
  refine ⟨b,off + i * T.sz,by simp [zai],fun w S q u hu => ?_⟩
  rw [Ty.cells_subl _ _ _ hij hj,List.getElem?_take] at hu
  split at hu
  ·rw [List.getElem?_drop] at hu
   have:=hc w S _ u hu
   rw [← Nat.add_assoc] at this
   exact this
  ·cases hu
theorem OwnR.cut {α:Type}{T:Ty α}{e:TypeId}{A:Option Addr}{l r:List α}{s:Seg}(h:OwnR T e A l r s) {i j m:Nat}(hij:i≤j) (hjm:j≤m) (hm:m≤l.length + r.length) :
  OwnR T e (if m=i then A else A.map (·.add (i * T.sz))) (subl (l++r) i j) (subl (l++r) j m) s:=by
 rcases h with ⟨rfl,rfl,rfl,rfl⟩ | ⟨g,pre,post,fr,rfl,rfl,hf,hc⟩
 ·left
  simp [subl]
 ·right
  split
  ·rename_i hmi
   have:j=i:=by omega
   subst this; subst hmi
   refine ⟨g,pre,l++r++post,fr,rfl,?_,?_,by simp [subl]⟩
   ·simp [subl]
   ·simpa [subl] using hf
  ·have e1:l++r=(l++r).take i++subl (l++r) i j++subl (l++r) j m++(l++r).drop m:=by
    unfold subl
    conv => lhs; rw [← List.take_append_drop i (l++r),← List.take_append_drop (j - i) ((l++r).drop i),List.drop_drop,show i + (j - i)=j from by omega]
    conv => lhs; rw [← List.take_append_drop (m - j) ((l++r).drop j),List.drop_drop,show j + (m - j)=m from by omega]
    simp only [List.append_assoc]
   have e2:pre++l++r++post=(pre++(l++r).take i)++subl (l++r) i j++subl (l++r) j m++((l++r).drop m++post):=by
    rw [List.append_assoc pre l r]
    conv => lhs; rw [e1]
    simp only [List.append_assoc]
   refine ⟨g,pre++(l++r).take i,(l++r).drop m++post,fr,?_,?_,?_,?_⟩
   ·simp only [Option.map_some,zai]
    rw [List.length_append,List.length_take,Nat.min_eq_left (by rw [List.length_append]; omega),Nat.add_mul]
   ·rw [e2]
   ·rw [e2] at hf; exact hf
   ·rw [zaA (by rw [List.length_append]; omega),zaA (by rw [List.length_append]; omega)]
    omega
theorem Own.cut {α:Type}{T:Ty α}{e:TypeId}{A:Option Addr}{C:Nat}{l:List α}{s:Seg}(h:Own T e A C l s) {i j m:Nat}(hij:i≤j) (hj:j≤l.length) (hjm:j≤m) (hm:m≤C) :
  Own T e (if m=i then A else A.map (·.add (i * T.sz))) (m - i) (subl l i j) s:=by
 obtain ⟨r,rfl,h⟩:=h
 have:=h.cut hij hjm hm
 have e1:subl (l++r) i j=subl l i j:=by
  unfold subl
  rw [List.drop_append_of_le_length (by omega),List.take_append_of_le_length (by rw [List.length_drop]; omega)]
 rw [e1] at this
 refine ⟨_,?_,this⟩
 rw [zaA hj,zaA (by rw [List.length_append]; omega)]
 omega
section
variable {X:Pt}{k:List Item}{E:Env}{ds:List Deferred}{H:List Seg}{ops:Array Oper}{os:List Oper}
  {d:Nat}{ty:TypeId}{pos:String}{after:Array Edge}{g:Option (Nat×Bool)}
section cuts
variable {α:Type}{T:Ty α}{xt e:TypeId}{x:Operand}{lo hi mx:Option Operand}{A:Option Addr}{C:Nat}{l:List α}
theorem zcb {d:Option Tmp}{n:Nat}{i j m sz:Nat}(h1:evBound E lo 0 i) (h2:evBound E hi n j) (h3:evBound E mx C m) (hmx:mx.isSome=true→hi.isSome=true) (hij:i≤j) (hjm:j≤m) (hm:m≤C)
  (hu:X.P.underlying xt=some (.slice e)) (hs:sizeN X.P e sz=true) (hx:ev E x=some (.slice A n C)) (ρ:Operand→Value) (w:World) (hρ:∀ x v,ev E x=some v→ρ x=v) :
  (execOp ρ ⟨d,.slice xt x lo hi mx,ty,pos,after,g⟩).run X.P w = .ok (.value (.slice (if m=i then A else A.map (·.add (i * sz))) (j - i) (m - i))) w:=by
 have hb:=zfm (P:=X.P) hρ true h1 h2 h3 hmx hij hjm hm w
 simp [execOp,hρ _ _ hx,Instr.sliceAt,Instr.slice,run_underlying hu,hb,zbx hs]
theorem Do.sliceR (q i j m:Nat) (hr:Rd T X.w0 X.base (H.drop q) A C l) (h1:evBound E lo 0 i) (h2:evBound E hi l.length j) (h3:evBound E mx C m) (hmx:mx.isSome=true→hi.isSome=true) (hij:i≤j) (hj:j≤l.length) (hjm:j≤m) (hm:m≤C) (hu:X.P.underlying xt=some (.slice e)) (hs:sizeN X.P e T.sz=true) (hx:ev E x=some (.slice A l.length C)):Does X E H (.slice xt x lo hi mx) (fun v H' => ∃ A' C',Rd T X.w0 X.base (H.drop q) A' C' (subl l i j)∧v = .slice A' (subl l i j).length C'∧H' = H) :=
 Does.core rfl (fun dst ty pos after g ρ w hρ S => ⟨_,w,H,zcb (d:=dst) h1 h2 h3 hmx hij hjm hm hu hs hx ρ w hρ,S,_,_,hr.cut hij hj hjm hm,by rw [zaA hj],rfl⟩)
theorem AtL.sliceR (q i j m:Nat) (hr:Rd T X.w0 X.base (H.drop q) A C l) (h1:evBound E lo 0 i) (h2:evBound E hi l.length j) (h3:evBound E mx C m) (hmx:mx.isSome=true→hi.isSome=true) (hij:i≤j) (hj:j≤l.length) (hjm:j≤m) (hm:m≤C)
  (hu:X.P.underlying xt=some (.slice e)) (hs:sizeN X.P e T.sz=true) (hg:Wd X ops E g) (hd:Nat.blt d X.n=true) (hx:ev E x=some (.slice A l.length C))
  (hk:∀ A' C',Rd T X.w0 X.base (H.drop q) A' C' (subl l i j)→AtL X ops os k ((d,.slice A' (subl l i j).length C')::E) ds H) :
  AtL X ops (⟨some d,.slice xt x lo hi mx,ty,pos,after,g⟩::os) k E ds H :=
 AtL.of (Do.sliceR q i j m hr h1 h2 h3 hmx hij hj hjm hm hu hs hx) hg hd fun _ _ ⟨A',C',h',hv,hH⟩ => by subst hv; subst hH; exact hk A' C' h'
theorem Do.sliceO {s:Seg}(i j m:Nat) (hr:Own T e A C l s) (h1:evBound E lo 0 i) (h2:evBound E hi l.length j) (h3:evBound E mx C m) (hmx:mx.isSome=true→hi.isSome=true) (hij:i≤j) (hj:j≤l.length) (hjm:j≤m) (hm:m≤C) (hu:X.P.underlying xt=some (.slice e)) (hs:sizeN X.P e T.sz=true) (hx:ev E x=some (.slice A l.length C)):Does X E H (.slice xt x lo hi mx) (fun v H' => ∃ A' C',Own T e A' C' (subl l i j) s∧v = .slice A' (subl l i j).length C'∧H' = H) :=
 Does.core rfl (fun dst ty pos after g ρ w hρ S => ⟨_,w,H,zcb (d:=dst) h1 h2 h3 hmx hij hjm hm hu hs hx ρ w hρ,S,_,_,hr.cut hij hj hjm hm,by rw [zaA hj],rfl⟩)
theorem AtL.sliceO {s:Seg}(i j m:Nat) (hr:Own T e A C l s) (h1:evBound E lo 0 i) (h2:evBound E hi l.length j) (h3:evBound E mx C m) (hmx:mx.isSome=true→hi.isSome=true) (hij:i≤j) (hj:j≤l.length) (hjm:j≤m) (hm:m≤C)
  (hu:X.P.underlying xt=some (.slice e)) (hs:sizeN X.P e T.sz=true) (hg:Wd X ops E g) (hd:Nat.blt d X.n=true) (hx:ev E x=some (.slice A l.length C))
  (hk:∀ A' C',Own T e A' C' (subl l i j) s→AtL X ops os k ((d,.slice A' (subl l i j).length C')::E) ds H) :
  AtL X ops (⟨some d,.slice xt x lo hi mx,ty,pos,after,g⟩::os) k E ds H :=
 AtL.of (Do.sliceO i j m hr h1 h2 h3 hmx hij hj hjm hm hu hs hx) hg hd fun _ _ ⟨A',C',h',hv,hH⟩ => by subst hv; subst hH; exact hk A' C' h'
end cuts
theorem Rd.first {α:Type}{T:Ty α}{P:Program}{w0:World}{base:Nat}{A:Option Addr}{C:Nat}{l:List α}(h:Rd T w0 base H A C l) {w:World}(S:Sep w0 base w H) (n:Nat) (hn:n≤l.length) :
  (Builtin.firstCells T.sz n (.slice A l.length C)).run P w = .ok (T.cells (l.take n)).toArray w:=by
 cases A with
 | none =>
  have hC:=h.nil rfl
  have hl:=h.le
  have:l=[]:=List.eq_nil_of_length_eq_zero (by omega)
  subst this
  simp [Builtin.firstCells,Ty.cells]
 | some a =>
  by_cases h0:l=[]
  ·subst h0
   have:n=0:=by simpa using hn
   subst this
   simp [Builtin.firstCells,Ty.cells,loadCells,loadCellsFrom]
  ·obtain ⟨b,off,ha,hc⟩:=h.cells h0
   cases ha
   have hl:(T.cells (l.take n)).length=n * T.sz:=by rw [Ty.cells_len,List.length_take,Nat.min_eq_left hn]
   have:=run_loadCells_list (P:=P) w ⟨b,off,none⟩ (T.cells (l.take n)) (fun j v hj => by
    rw [zai]
    refine hc w S j v ?_
    rw [Ty.cells_take _ _ hn,List.getElem?_take] at hj
    split at hj
    ·exact hj
    ·cases hj)
   rw [hl] at this
   simp [Builtin.firstCells,this]
structure ElemOk {α:Type}(P:Program) (t e:TypeId) (T:Ty α) (z:α) (by_:Nat):Prop where
  u:P.underlying t=some (.slice e)
  info:∃ i,P.info? e=some i∧i.size=T.sz∧i.bytes=by_∧i.zero=some (T.val z)
  pos:0 < by_
def elemB (P:Program) (e sz by_:Nat):Bool:=match P.info? e with
 | some i => Nat.beq i.size sz && Nat.beq i.bytes by_
 | none => false
theorem ElemOk.of {α:Type}{P:Program}{t e:TypeId}{T:Ty α}{z:α}{by_:Nat}(hu:P.underlying t=some (.slice e)) (h:elemB P e T.sz by_=true) (hz:zeroV P e=some (T.val z)) (hp:Nat.blt 0 by_=true):ElemOk P t e T z by_:=by
 refine ⟨hu,?_,zbS hp⟩
 unfold elemB at h
 unfold zeroV at hz
 cases hi:P.info? e with
 | none => rw [hi] at h; cases h
 | some i =>
  rw [hi] at h hz
  simp only [Bool.and_eq_true] at h
  exact ⟨i,rfl,Nat.eq_of_beq_eq_true h.1,Nat.eq_of_beq_eq_true h.2,hz⟩
theorem zbf (z:Array Value) (n:Nat):Builtin.zeroCells z n=((List.replicate n z.toList).flatten).toArray:=by
 unfold Builtin.zeroCells
 exact zdq z n
theorem Sep.swap {w0:World}{base:Nat}{w:World}{i:Nat}{s s' : Seg}(S:Sep w0 base w (s'::H)) (hi:H[i]? = some s):Sep w0 base w (H.set i s'):=by
 obtain ⟨h1,h2⟩:=zbq.1 S.nodup
 rw [List.pairwise_cons] at h2
 obtain ⟨h2,h3⟩:=h2
 refine ⟨S.below,S.le,fun p hp => S.mem p ?_,zbq.2 ⟨fun t ht => h1 t ?_,?_⟩⟩
 ·rcases zcC hp with h | ⟨j,_,r,hr,hp⟩
  ·simp [h]
  ·rw [List.flatten_cons,List.mem_append]
   exact .inr (List.mem_flatten.2 ⟨r,List.mem_iff_getElem?.2 ⟨j,hr⟩,hp⟩)
 ·rcases List.mem_or_eq_of_mem_set ht with h | h
  ·simp [h]
  ·simp [h]
 ·rw [List.pairwise_iff_getElem] at h3 ⊢
  intro a b ha hb hab x hx y hy
  simp only [List.length_set] at ha hb
  rw [List.getElem_set] at hx hy
  split at hx
  ·rename_i e1
   rw [if_neg (by omega)] at hy
   exact h2 _ (List.getElem_mem hb) x hx y hy
  ·split at hy
   ·intro exy
    exact h2 _ (List.getElem_mem ha) y hy x hx exy.symm
   ·exact h3 a b ha hb hab x hx y hy
theorem zde (l:List UInt8):tyB.cells l=l.map byt:=by
 induction l with
 | nil => rfl
 | cons a l ih =>
  have:tyB.cells (a::l)=byt a::tyB.cells l:=rfl
  rw [this,ih]; rfl
theorem zfn {α:Type}{T:Ty α}{P:Program}{w0:World}{base:Nat}{w:World}(S:Sep w0 base w H) {t t2 e:TypeId}{ty:TypeId}{z:α}{by_:Nat}(hT:ElemOk P t e T z by_) (h2:P.underlying t2=some .string∨∃ e2,P.underlying t2=some (.slice e2))
  {A:Option Addr}{C:Nat}{l news:List α}{s:Seg}{i:Nat}(hi:H[i]? = some s) (ho:Own T e A C l s) {x:Value}(hl:∀ w,(Builtin.lenOf x).run P w = .ok news.length w) (hf:∀ w,Sep w0 base w H→(Builtin.firstCells T.sz news.length x).run P w = .ok (T.cells news).toArray w)
  (hb:(l.length + news.length) * by_≤140737488355328) :
  ∃ A' C' s' w',(Builtin.append_ #[t,t2] ty #[.slice A l.length C,x]).run P w = .ok (.slice A' (l++news).length C') w'∧Own T e A' C' (l++news) s'∧Sep w0 base w' (H.set i s'):=by
 obtain ⟨io,hio,hsz,hby,hz⟩:=hT.info
 have hpos:=hT.pos
 have hlen:l.length + news.length≤140737488355328:=Nat.le_trans (Nat.le_mul_of_pos_right _ hpos) hb
 have hrd:Rd T w0 base H A C l:=ho.rd hi
 by_cases hroom:l.length + news.length≤C
 ·obtain ⟨r,rfl,h⟩:=ho
  rcases h with ⟨rfl,rfl,rfl,rfl⟩ | ⟨gb,pre,post,fr,rfl,rfl,hfo,hc⟩
  ·have hn:news=[]:=List.eq_nil_of_length_eq_zero (by simpa using hroom)
   subst hn
   refine ⟨none,0,[],w,?_,Own.nil T e,?_⟩
   ·have h0:=hl w
    have h1:=hf w S
    simp at h0 h1
    rcases h2 with h2 | ⟨e2,h2⟩ <;> simp [Builtin.append_,run_underlying hT.u,run_underlying h2,sizeOf,typeInfo,hio,hsz,h0,h1]
   ·have:H.set i []=H:=by
     apply List.ext_getElem?
     intro j
     rw [List.getElem?_set]
     split
     ·rename_i hj; subst hj; rw [hi]; simp [(List.getElem?_eq_some_iff.1 hi).1]
     ·rfl
    rw [this]; exact S
  ·have hrn:news.length≤r.length:=by omega
   have hblk:=(S.at_ hi (j:=0) rfl).1
   have hst:=zat P gb (pre.length * T.sz + l.length * T.sz) e fr (T.cells news) 0 _ w hblk (fun j h1 h2 => hfo j (by
     rw [Ty.cells_len] at h2
     simp only [List.length_append]
     have:(pre.length + l.length + r.length + post.length) * T.sz=pre.length * T.sz + l.length * T.sz + r.length * T.sz + post.length * T.sz:=by simp only [Nat.add_mul]
     rw [this]
     have:=Nat.mul_le_mul_right T.sz hrn
     omega)) (by
     simp only [List.size_toArray,Ty.cells_len,List.length_append,Nat.add_mul]
     have:=Nat.mul_le_mul_right T.sz hrn
     omega) Ty.cells_plain
   have ecut:((T.cells (pre++l++r++post)).take (pre.length * T.sz + l.length * T.sz)++T.cells news++(T.cells (pre++l++r++post)).drop (pre.length * T.sz + l.length * T.sz + (T.cells news).length))=T.cells (pre++(l++news)++r.drop news.length++post):=by
    have h1:pre.length * T.sz + l.length * T.sz=(pre++l).length * T.sz:=by rw [List.length_append,Nat.add_mul]
    have h2:(pre++l).length * T.sz + (T.cells news).length=((pre++l).length + news.length) * T.sz:=by rw [Ty.cells_len,Nat.add_mul]
    rw [h1,h2,← Ty.cells_take _ _ (by simp only [List.length_append]; omega),← Ty.cells_drop _ _ (by simp only [List.length_append] at hrn ⊢; omega),← Ty.cells_app,← Ty.cells_app]
    congr 1
    rw [List.append_assoc (pre++l) r post,List.take_left,List.drop_append,List.drop_eq_nil_of_le (by omega),List.nil_append,Nat.add_sub_cancel_left]
    rw [List.drop_append_of_le_length hrn]
    simp only [List.append_assoc]
   refine ⟨some ⟨gb,pre.length * T.sz,none⟩,l.length + r.length,[(gb,.cells (T.cells (pre++(l++news)++r.drop news.length++post)).toArray e fr)],_,?_,⟨r.drop news.length,by simp only [List.length_append,List.length_drop]; omega,.inr ⟨gb,pre,post,fr,rfl,rfl,?_,by simp only [List.length_append,List.length_drop]; omega⟩⟩,S.setRow hi (j:=0) rfl _⟩
   ·have h0:=hl w
    have h1:=hf w S
    simp only [Nat.add_zero] at hst
    rw [ecut] at hst
    have hst' : (storeCells ⟨gb,pre.length * T.sz + l.length * T.sz,none⟩ (T.cells news)).run P w=_:=hst
    rcases h2 with h2 | ⟨e2,h2⟩ <;> simp [Builtin.append_,run_underlying hT.u,run_underlying h2,sizeOf,typeInfo,hio,hsz,h0,h1,hrn,zai,hst']
   ·have:(pre++(l++news)++r.drop news.length++post).length=(pre++l++r++post).length:=by simp only [List.length_append,List.length_drop]; omega
    rw [this]; exact hfo
 ·have hneed:C < l.length + news.length:=by omega
  have hfits:=growslice_fits (bytes:=by_) hneed hb
  have hge:=grownCap_ge w (l.length + news.length) C e
  have hcm:grownCap w (l.length + news.length) C e≤maxLen:=grownCap_le_maxLen w (l.length + news.length) C e (by simp only [maxLen]; omega)
  have Sd:Sep w0 base w.drew H:=S.drawn _
  have h0:=hl w
  have h1:=hf w.drew Sd
  have h3:=hrd.first (P:=P) Sd l.length (Nat.le_refl _)
  rw [List.take_length] at h3
  refine ⟨some ⟨w.heap.size,0,none⟩,grownCap w (l.length + news.length) C e,[(w.heap.size,.cells (T.cells ([]++(l++news)++List.replicate (grownCap w (l.length + news.length) C e - (l.length + news.length)) z++[])).toArray e (0,0))],w.drew.alloc (.cells (T.cells ([]++(l++news)++List.replicate (grownCap w (l.length + news.length) C e - (l.length + news.length)) z++[])).toArray e),?_,
   ⟨List.replicate (grownCap w (l.length + news.length) C e - (l.length + news.length)) z,by simp only [List.length_append,List.length_replicate]; omega,.inr ⟨w.heap.size,[],[],(0,0),by simp,rfl,zao _,by simp only [List.length_append,List.length_replicate]; simp only [maxLen] at hcm; omega⟩⟩,?_⟩
  rotate_left
  ·exact Sep.swap (Sd.alloc _) hi
  ·have hb48:¬ (281474976710656 < Builtin.nextslicecap (l.length + news.length) C * by_):=by omega
   have hb0:by_≠0:=by omega
   have hmax:¬ ((9223372036854775807:Int) < (((l.length + news.length:Nat)):Int)):=by omega
   have ez:Builtin.zeroCells (T.val z).cells (grownCap w (l.length + news.length) C e - (l.length + news.length))=(T.cells (List.replicate (grownCap w (l.length + news.length) C e - (l.length + news.length)) z)).toArray:=by
    rw [zbf,Ty.cells_rep]
   have ecells:(T.cells l).toArray++(T.cells news).toArray++(T.cells (List.replicate (grownCap w (l.length + news.length) C e - (l.length + news.length)) z)).toArray=(T.cells ([]++(l++news)++List.replicate (grownCap w (l.length + news.length) C e - (l.length + news.length)) z++[])).toArray:=by
    simp [Ty.cells_app]
   have hch:(choose (.appendCap (l.length + news.length) C e)).run P w = .ok (grownCap w (l.length + news.length) C e) w.drew:=by
    rfl
   rcases h2 with h2 | ⟨e2,h2⟩
   all_goals
    unfold Builtin.append_
    simp only [run_underlying hT.u,run_underlying h2,sizeOf,typeInfo,Sem.run_bind,Result.andThen_ok,Sem.run_pure,run_program,hio,hsz,h0,List.getElem?_toArray,List.getElem?_cons_zero,List.getElem?_cons_succ,Bool.false_eq_true,if_false,hroom,hby,hb48,false_or,hb0,and_false,hch,run_askRoom,h3,h1,newRow,run_newObj,zeroValue,hz,ez,ecells,Bool.not_false,if_true]
    simp only [ez,ecells,List.length_append]
    rfl
section app
variable {α:Type}{T:Ty α}{t e:TypeId}{z:α}{by_:Nat}{x y:Operand}{A A2:Option Addr}{C C2:Nat}{l news:List α}{s:Seg}
theorem Do.append (i:Nat) (hT:ElemOk X.P t e T z by_) (hi:H[i]? = some s) (ho:Own T e A C l s) (hr:Rd T X.w0 X.base H A2 C2 news) (hb:(l.length + news.length) * by_≤140737488355328) (hx:ev E x=some (.slice A l.length C)) (hy:ev E y=some (.slice A2 news.length C2)):Does X E H (.call ⟨.builtin .append,#[x,y],#[t,t]⟩) (fun v H' => ∃ A' C' s',Own T e A' C' (l++news) s'∧v = .slice A' (l++news).length C'∧H' = H.set i s') :=
 Does.core rfl (fun dst ty pos after g ρ w hρ S => by
  obtain ⟨A',C',s',w',hrun,ho',S'⟩:=zfn (P:=X.P) S (ty:=ty) hT (.inr ⟨_,hT.u⟩) hi ho (x:=.slice A2 news.length C2) (news:=news) (fun w => by simp [Builtin.lenOf]) (fun w S => by have:=hr.first (P:=X.P) S news.length (Nat.le_refl _); rwa [List.take_length] at this) hb
  refine ⟨_,w',_,?_,S',A',C',s',ho',rfl,rfl⟩
  simp [execOp,resolve,invoke,builtin,hρ _ _ hx,hρ _ _ hy,hrun])
theorem AtL.append (i:Nat) (hT:ElemOk X.P t e T z by_) (hi:H[i]? = some s) (ho:Own T e A C l s) (hr:Rd T X.w0 X.base H A2 C2 news) (hb:(l.length + news.length) * by_≤140737488355328) (hg:Wd X ops E g) (hd:Nat.blt d X.n=true)
  (hx:ev E x=some (.slice A l.length C)) (hy:ev E y=some (.slice A2 news.length C2))
  (hk:∀ A' C' s',Own T e A' C' (l++news) s'→AtL X ops os k ((d,.slice A' (l++news).length C')::E) ds (H.set i s')) :
  AtL X ops (⟨some d,.call ⟨.builtin .append,#[x,y],#[t,t]⟩,ty,pos,after,g⟩::os) k E ds H :=
 AtL.of (Do.append i hT hi ho hr hb hx hy) hg hd fun _ _ ⟨A',C',s',h',hv,hH⟩ => by subst hv; subst hH; exact hk A' C' s' h'
end app
theorem Do.appendS {t e u:TypeId}{x y:Operand}{A:Option Addr}{C:Nat}{l news:List UInt8}{s:Seg}(i:Nat) (hT:ElemOk X.P t e tyB 0 1) (hu:X.P.underlying u=some .string) (hi:H[i]? = some s) (ho:Own tyB e A C l s) (hb:l.length + news.length≤140737488355328) (hx:ev E x=some (.slice A l.length C)) (hy:ev E y=some (str news)):Does X E H (.call ⟨.builtin .append,#[x,y],#[t,u]⟩) (fun v H' => ∃ A' C' s',Own tyB e A' C' (l++news) s'∧v = .slice A' (l++news).length C'∧H' = H.set i s') :=
 Does.core rfl (fun dst ty pos after g ρ w hρ S => by
  obtain ⟨A',C',s',w',hrun,ho',S'⟩:=zfn (P:=X.P) S (ty:=ty) hT (.inl hu) hi ho (x:=str news) (news:=news) (fun w => by simp [Builtin.lenOf,str,za9]) (fun w S => by
   have e1:(ByteArray.mk ⟨news⟩).extract 0 news.length=ByteArray.mk ⟨news⟩:=by
    apply ByteArray.ext
    simp
   have e2:(tyB.cells news).toArray=(⟨news⟩:Array UInt8).map fun b => Value.int .u8 b.toNat:=by
    apply Array.ext'
    rw [zde]
    simp [byt]
   simp [Builtin.firstCells,str,e1,e2]) (by omega)
  refine ⟨_,w',_,?_,S',A',C',s',ho',rfl,rfl⟩
  simp [execOp,resolve,invoke,builtin,hρ _ _ hx,hρ _ _ hy,hrun])
theorem AtL.appendS {t e u:TypeId}{x y:Operand}{A:Option Addr}{C:Nat}{l news:List UInt8}{s:Seg}(i:Nat) (hT:ElemOk X.P t e tyB 0 1) (hu:X.P.underlying u=some .string) (hi:H[i]? = some s) (ho:Own tyB e A C l s) (hb:l.length + news.length≤140737488355328) (hg:Wd X ops E g) (hd:Nat.blt d X.n=true)
  (hx:ev E x=some (.slice A l.length C)) (hy:ev E y=some (str news))
  (hk:∀ A' C' s',Own tyB e A' C' (l++news) s'→AtL X ops os k ((d,.slice A' (l++news).length C')::E) ds (H.set i s')) :
  AtL X ops (⟨some d,.call ⟨.builtin .append,#[x,y],#[t,u]⟩,ty,pos,after,g⟩::os) k E ds H :=
 AtL.of (Do.appendS i hT hu hi ho hb hx hy) hg hd fun _ _ ⟨A',C',s',h',hv,hH⟩ => by subst hv; subst hH; exact hk A' C' s' h'
end
section
variable {X:Pt}{k:List Item}{E:Env}{ds:List Deferred}{H:List Seg}{ops:Array Oper}{os:List Oper}
  {d:Nat}{ty:TypeId}{pos:String}{after:Array Edge}{g:Option (Nat×Bool)}
theorem OwnR.over {α:Type}{T:Ty α}{P:Program}{w0:World}{base:Nat}{w:World}(S:Sep w0 base w H) {e:TypeId}{A:Option Addr}{l r:List α}{s:Seg}{i:Nat}(hi:H[i]? = some s) (ho:OwnR T e A l r s) {a:Addr}(ha:A=some a) (j:Nat) (news:List α) (hj:j + news.length≤l.length) :
  ∃ s' w',(storeCells (a.add (j * T.sz)) (T.cells news)).run P w = .ok () w'∧OwnR T e A (l.take j++news++l.drop (j + news.length)) r s'∧Sep w0 base w' (H.set i s'):=by
 rcases ho with ⟨rfl,_⟩ | ⟨gb,pre,post,fr,rfl,rfl,hfo,hc⟩
 ·cases ha
 ·cases ha
  have hblk:=(S.at_ hi (j:=0) rfl).1
  have htot:(pre++l++r++post).length * T.sz=pre.length * T.sz + l.length * T.sz + r.length * T.sz + post.length * T.sz:=by simp only [List.length_append,Nat.add_mul]
  have hjm:=Nat.mul_le_mul_right T.sz hj
  rw [Nat.add_mul] at hjm
  have hst:=zat P gb (pre.length * T.sz + j * T.sz) e fr (T.cells news) 0 _ w hblk (fun q h1 h2 => hfo q (by
    rw [Ty.cells_len] at h2
    rw [htot]
    omega)) (by
    rw [List.size_toArray,Ty.cells_len,Ty.cells_len,htot]
    omega) Ty.cells_plain
  have ecut:((T.cells (pre++l++r++post)).take (pre.length * T.sz + j * T.sz)++T.cells news++(T.cells (pre++l++r++post)).drop (pre.length * T.sz + j * T.sz + (T.cells news).length))=T.cells (pre++(l.take j++news++l.drop (j + news.length))++r++post):=by
   have h1:pre.length * T.sz + j * T.sz=(pre.length + j) * T.sz:=by rw [Nat.add_mul]
   have h2:(pre.length + j) * T.sz + (T.cells news).length=(pre.length + (j + news.length)) * T.sz:=by rw [Ty.cells_len]; simp only [Nat.add_mul]; omega
   rw [h1,h2,← Ty.cells_take _ _ (by simp only [List.length_append]; omega),← Ty.cells_drop _ _ (by simp only [List.length_append]; omega),← Ty.cells_app,← Ty.cells_app]
   congr 1
   rw [show pre++l++r++post=pre++(l++(r++post)) from by simp only [List.append_assoc]]
   rw [List.take_append,List.take_of_length_le (by omega),Nat.add_sub_cancel_left,List.take_append_of_le_length (by omega)]
   rw [List.drop_append,List.drop_eq_nil_of_le (by omega),List.nil_append,Nat.add_sub_cancel_left,List.drop_append_of_le_length (by omega)]
   simp only [List.append_assoc]
  simp only [Nat.add_zero] at hst
  rw [ecut] at hst
  refine ⟨[(gb,.cells (T.cells (pre++(l.take j++news++l.drop (j + news.length))++r++post)).toArray e fr)],_,?_,.inr ⟨gb,pre,post,fr,rfl,rfl,?_,?_⟩,S.setRow hi (j:=0) rfl _⟩
  ·rw [zai]; exact hst
  ·have:(pre++(l.take j++news++l.drop (j + news.length))++r++post).length=(pre++l++r++post).length:=by simp only [List.length_append,List.length_take,List.length_drop]; omega
   rw [this]; exact hfo
  ·simp only [List.length_append,List.length_take,List.length_drop]; omega
theorem Do.copy {α:Type}{T:Ty α}{t t2 e:TypeId}{x y:Operand}{A A2:Option Addr}{C C2:Nat}{l news:List α}{s:Seg}(i:Nat) (hu:X.P.underlying t=some (.slice e)) (hs:sizeN X.P e T.sz=true) (hi:H[i]? = some s) (ho:Own T e A C l s) (hr:Rd T X.w0 X.base H A2 C2 news) (hx:ev E x=some (.slice A l.length C)) (hy:ev E y=some (.slice A2 news.length C2)):Does X E H (.call ⟨.builtin .copy,#[x,y],#[t,t2]⟩) (fun v H' => ∃ s',Own T e A C (news.take l.length++l.drop news.length) s'∧v=int ((min news.length l.length:Nat):Int)∧H' = H.set i s') :=
 Does.core rfl (fun dst ty pos after g ρ w hρ S => by
  have hf:=hr.first (P:=X.P) S (min news.length l.length) (Nat.min_le_left _ _)
  have hmin:Nat.min news.length l.length=min news.length l.length:=rfl
  have hlen:(news.take (min news.length l.length)).length=min news.length l.length:=by rw [List.length_take]; omega
  have etake:news.take (min news.length l.length)=news.take l.length:=by
   rcases Nat.le_total news.length l.length with h | h
   ·rw [Nat.min_eq_left h,List.take_of_length_le (Nat.le_refl _),List.take_of_length_le h]
   ·rw [Nat.min_eq_right h]
  have edrop:l.drop (min news.length l.length)=l.drop news.length:=by
   rcases Nat.le_total news.length l.length with h | h
   ·rw [Nat.min_eq_left h]
   ·rw [Nat.min_eq_right h,List.drop_eq_nil_of_le (Nat.le_refl _),List.drop_eq_nil_of_le h]
  cases A with
  | none =>
   have hC:l=[]∧s=[]:=by
    obtain ⟨r,_,h⟩:=ho
    rcases h with ⟨_,h1,_,h2⟩ | ⟨_,_,_,_,h,_⟩
    ·exact ⟨h1,h2⟩
    ·cases h
   obtain ⟨rfl,rfl⟩:=hC
   have hset:H.set i []=H:=by
    apply List.ext_getElem?
    intro j
    rw [List.getElem?_set]
    split
    ·rename_i hj; subst hj; rw [hi]; simp [(List.getElem?_eq_some_iff.1 hi).1]
    ·rfl
   refine ⟨_,w,H,?_,S,[],by simpa using ho,rfl,hset.symm⟩
   simp at hf
   simp [execOp,resolve,invoke,builtin,hρ _ _ hx,hρ _ _ hy,Builtin.copy_,run_underlying hu,zbx hs,Builtin.lenOf,hmin,hf,goInt]
  | some a =>
   obtain ⟨r,rfl,hor⟩:=ho
   obtain ⟨s',w',hst,ho',S'⟩:=hor.over (P:=X.P) S hi rfl 0 (news.take (min news.length l.length)) (by rw [hlen]; omega)
   rw [hlen] at ho'
   simp only [List.take_zero,List.nil_append,Nat.zero_add,edrop,etake] at ho'
   have ha:a.add (0 * T.sz)=a:=by rw [Nat.zero_mul]; rfl
   rw [ha] at hst
   refine ⟨_,w',_,?_,S',s',⟨r,?_,ho'⟩,rfl,rfl⟩
   ·simp [execOp,resolve,invoke,builtin,hρ _ _ hx,hρ _ _ hy,Builtin.copy_,run_underlying hu,zbx hs,Builtin.lenOf,hmin,hf,hst,goInt]
   ·simp only [List.length_append,List.length_take,List.length_drop]; omega)
theorem AtL.copy {dst:Option Tmp}{α:Type}{T:Ty α}{t t2 e:TypeId}{x y:Operand}{A A2:Option Addr}{C C2:Nat}{l news:List α}{s:Seg}(i:Nat) (hu:X.P.underlying t=some (.slice e)) (hs:sizeN X.P e T.sz=true) (hi:H[i]? = some s) (ho:Own T e A C l s) (hr:Rd T X.w0 X.base H A2 C2 news) (hg:Wd X ops E g) (hd:dstOk X.n dst=true)
  (hx:ev E x=some (.slice A l.length C)) (hy:ev E y=some (.slice A2 news.length C2))
  (hk:∀ s',Own T e A C (news.take l.length++l.drop news.length) s'→AtL X ops os k (putE E dst (int ((min news.length l.length:Nat):Int))) ds (H.set i s')) :
  AtL X ops (⟨dst,.call ⟨.builtin .copy,#[x,y],#[t,t2]⟩,ty,pos,after,g⟩::os) k E ds H :=
 AtL.of (Do.copy i hu hs hi ho hr hx hy) hg hd fun _ _ ⟨s',h',hv,hH⟩ => by subst hv; subst hH; exact hk s' h'
theorem Do.makeSlice {α:Type}{T:Ty α}{t e:TypeId}{x y:Operand}{kk k2:IntKind}{z:α}{by_ n c:Nat}(hT:ElemOk X.P t e T z by_) (hzs:T.sz≠0) (hx:ev E x=some (.int kk (n:Int))) (hy:ev E y=some (.int k2 (c:Int))) (hnc:n≤c) (hc:c * by_≤140737488355328):Does X E H (.makeSlice t x y) (fun v H' => ∃ A' s',Own T e A' c (List.replicate n z) s'∧OwnR T e A' (List.replicate n z) (List.replicate (c - n) z) s'∧v = .slice A' (List.replicate n z).length c∧H' = s'::H) :=
 Does.core rfl (fun dst ty pos after g ρ w hρ S => by
  obtain ⟨io,hio,hsz,hby,hz⟩:=hT.info
  have hpos:=hT.pos
  have hcl:c≤140737488355328:=Nat.le_trans (Nat.le_mul_of_pos_right _ hpos) hc
  have hR:OwnR T e (some ⟨w.heap.size,0,none⟩) (List.replicate n z) (List.replicate (c - n) z) [(w.heap.size,.cells (T.cells (List.replicate c z)).toArray e (0,0))]:=by
   refine .inr ⟨w.heap.size,[],[],(0,0),by simp,?_,zao _,by simp; omega⟩
   have:[]++List.replicate n z++List.replicate (c - n) z++[]=List.replicate c z:=by
    rw [List.nil_append,List.append_nil,List.replicate_append_replicate]
    congr 1; omega
   rw [this]
  have hO:Own T e (some ⟨w.heap.size,0,none⟩) c (List.replicate n z) [(w.heap.size,.cells (T.cells (List.replicate c z)).toArray e (0,0))]:=⟨_,by simp; omega,hR⟩
  refine ⟨.slice (some ⟨w.heap.size,0,none⟩) n c,_,_,?_,S.alloc _,_,_,hO,hR,by rw [List.length_replicate],rfl⟩
  have hw1:IntKind.i64.wrap (n:Int)=n:=w64 (by omega) (by omega)
  have hw2:IntKind.i64.wrap (c:Int)=c:=w64 (by omega) (by omega)
  have hbig:¬ ((281474976710656:Int) < (by_:Int) * (c:Int)):=by
   have:((c * by_:Nat):Int)≤140737488355328:=by omega
   rw [Int.natCast_mul,Int.mul_comm] at this
   omega
  have h1:¬ ((c:Int) < 0):=by omega
  have h2:¬ ((n:Int) < 0):=by omega
  have h3:¬ ((c:Int) < (n:Int)):=by omega
  have hasi:∀ (q:IntKind) (m:Nat) (w:World),(asInt (.int q (m:Int))).run X.P w = .ok (m:Int) w:=fun q m w => by simp [asInt,asIntOf]
  have hrow:((Array.range (c * T.sz)).map fun i => (T.val z).cells[i % (T.val z).cells.size]!)=(T.cells (List.replicate c z)).toArray:=by
   have:=zdq (T.val z).cells c
   rw [T.ok] at this ⊢
   rw [this,Ty.cells_rep]
  by_cases h0:c * T.sz=0
  ·have hc0:c=0:=by
    rcases Nat.mul_eq_zero.1 h0 with h | h
    ·exact h
    ·exact absurd h hzs
   subst hc0
   have hn0:n=0:=by omega
   subst hn0
   simp only [execOp,hρ _ _ hx,hρ _ _ hy,Instr.makeSlice,Sem.run_bind,run_underlying hT.u,Result.andThen_ok,hasi,typeInfo,run_program,hio,Sem.run_pure,sizeOf,hsz]
   have hw0:IntKind.i64.wrap 0=0:=by decide
   have er:∀ f:Nat→Value,(Array.range 0).map f = #[]:=fun f => by
    have:Array.range 0 = #[]:=by simp [Array.range]
    rw [this]; simp
   simp [hw0,newRow,Ty.cells,hio,er]
  ·simp only [execOp,hρ _ _ hx,hρ _ _ hy,Instr.makeSlice,Sem.run_bind,run_underlying hT.u,Result.andThen_ok,hasi,typeInfo,run_program,hio,Sem.run_pure,sizeOf,hsz]
   have hc0:¬ c=0:=fun e => h0 (by rw [e]; simp)
   simp [hw1,hw2,hby,hbig,h1,h2,h3,hc0,newRow,zeroValue,typeInfo,hio,hz,hnc,hzs,hsz]
   rw [if_neg h0,hrow])
theorem AtL.makeSlice {α:Type}{T:Ty α}{t e:TypeId}{x y:Operand}{kk k2:IntKind}{z:α}{by_ n c:Nat}(hT:ElemOk X.P t e T z by_) (hzs:T.sz≠0) (hg:Wd X ops E g) (hd:Nat.blt d X.n=true) (hx:ev E x=some (.int kk (n:Int))) (hy:ev E y=some (.int k2 (c:Int))) (hnc:n≤c) (hc:c * by_≤140737488355328)
  (hk:∀ A' s',Own T e A' c (List.replicate n z) s'→OwnR T e A' (List.replicate n z) (List.replicate (c - n) z) s'→AtL X ops os k ((d,.slice A' (List.replicate n z).length c)::E) ds (s'::H)) :
  AtL X ops (⟨some d,.makeSlice t x y,ty,pos,after,g⟩::os) k E ds H :=
 AtL.of (Do.makeSlice hT hzs hx hy hnc hc) hg hd fun _ _ ⟨A',s',h',h2',hv,hH⟩ => by subst hv; subst hH; exact hk A' s' h' h2'
theorem Do.bytesOf {src dst e:TypeId}{x:Operand}{l:List UInt8}(hs:X.P.underlying src=some .string) (hu:X.P.underlying dst=some (.slice e)) (he:X.P.underlying e=some (.int .u8)) (hl:l.length≤9223372036854775807) (hx:ev E x=some (str l)):Does X E H (.convert src dst x) (fun v H' => ∃ A' C' s',A'≠none∧Own tyB e A' C' l s'∧v = .slice A' l.length C'∧H' = s'::H) :=
 Does.core rfl (fun dst' ty pos after g ρ w hρ S => by
  have hrun:=run_bytes_of_string (P:=X.P) w src dst e ⟨⟨l⟩⟩ hs hu he
  have hge:=grownCap_ge w l.length 0 e
  have hcm:grownCap w l.length 0 e≤maxLen:=grownCap_le_maxLen w l.length 0 e (by simpa [maxLen] using hl)
  have erow:bytesRow ⟨⟨l⟩⟩ (grownCap w l.length 0 e)=(tyB.cells ([]++l++List.replicate (grownCap w l.length 0 e - l.length) 0++[])).toArray:=by
   unfold bytesRow
   apply Array.ext'
   rw [zde]
   simp [byt,za9]
  have hS:Sep X.w0 X.base (w.drew.alloc (.cells (bytesRow ⟨⟨l⟩⟩ (grownCap w l.length 0 e)) e ((bytesRow ⟨⟨l⟩⟩ (grownCap w l.length 0 e)).size,(bytesRow ⟨⟨l⟩⟩ (grownCap w l.length 0 e)).size + 1))) _:=(S.drawn (w.drawn + 1)).alloc _
  refine ⟨_,_,_,?_,hS,some ⟨w.heap.size,0,none⟩,grownCap w l.length 0 e,_,by simp,⟨List.replicate (grownCap w l.length 0 e - l.length) 0,by simp; omega,.inr ⟨w.heap.size,[],[],_,by simp,by rw [← erow],?_,by simp only [maxLen] at hcm; rw [List.length_replicate]; omega⟩⟩,rfl,rfl⟩
  ·rw [za9] at hrun
   have hrun' : (convert src dst (str l)).run X.P w=_:=hrun
   simp [execOp,hρ _ _ hx,hrun']
  ·intro j hj
   rw [erow]
   rw [Bool.and_eq_false_iff,decide_eq_false_iff_not]
   left
   rw [List.size_toArray,Ty.cells_len]
   omega)
theorem AtL.bytesOf {src dst e:TypeId}{x:Operand}{l:List UInt8}(hs:X.P.underlying src=some .string) (hu:X.P.underlying dst=some (.slice e)) (he:X.P.underlying e=some (.int .u8)) (hl:l.length≤9223372036854775807) (hg:Wd X ops E g) (hd:Nat.blt d X.n=true) (hx:ev E x=some (str l))
  (hk:∀ A' C' s',A'≠none→Own tyB e A' C' l s'→AtL X ops os k ((d,.slice A' l.length C')::E) ds (s'::H)) :
  AtL X ops (⟨some d,.convert src dst x,ty,pos,after,g⟩::os) k E ds H :=
 AtL.of (Do.bytesOf hs hu he hl hx) hg hd fun _ _ ⟨A',C',s',hn,h',hv,hH⟩ => by subst hv; subst hH; exact hk A' C' s' hn h'
theorem Do.strOf {src dst e:TypeId}{x:Operand}{A:Option Addr}{C:Nat}{l:List UInt8}(hr:Rd tyB X.w0 X.base H A C l) (hs:X.P.underlying src=some (.slice e)) (he:X.P.underlying e=some (.int .u8)) (hu:X.P.underlying dst=some .string) (hx:ev E x=some (.slice A l.length C)):Does X E H (.convert src dst x) (fun v H' => v=str l∧H' = H) :=
 Does.core rfl (fun dst' ty pos after g ρ w hρ S => by
  refine ⟨_,w,H,?_,S,rfl,rfl⟩
  have:(convert src dst (.slice A l.length C)).run X.P w = .ok (str l) w:=by
   cases A with
   | none =>
    have hC:=hr.nil rfl
    have hl:=hr.le
    have:l=[]:=List.eq_nil_of_length_eq_zero (by omega)
    subst this
    exact run_convert_bytes_nil w src e hs he _ _ dst hu
   | some a =>
    refine run_convert_bytes_back w src dst e a C l hs he hu (fun j hj => ?_)
    obtain ⟨b,off,ha,hc⟩:=hr.cells (by rintro rfl; simp at hj)
    cases ha
    rw [zai]
    refine hc w S j _ ?_
    rw [zde,List.getElem?_map,List.getElem?_eq_getElem hj]
    rfl
  simp [execOp,hρ _ _ hx,this])
theorem AtL.strOf {src dst e:TypeId}{x:Operand}{A:Option Addr}{C:Nat}{l:List UInt8}(hr:Rd tyB X.w0 X.base H A C l) (hs:X.P.underlying src=some (.slice e)) (he:X.P.underlying e=some (.int .u8)) (hu:X.P.underlying dst=some .string) (hg:Wd X ops E g) (hd:Nat.blt d X.n=true) (hx:ev E x=some (.slice A l.length C))
  (hk:AtL X ops os k ((d,str l)::E) ds H) :
  AtL X ops (⟨some d,.convert src dst x,ty,pos,after,g⟩::os) k E ds H :=
 AtL.of (Do.strOf hr hs he hu hx) hg hd fun _ _ ⟨hv,hH⟩ => by subst hv; subst hH; exact hk
end
theorem slLen {A:Option Addr}{C n m:Nat}(h:n=m):some (Value.slice A n C)=some (Value.slice A m C):=by rw [h]
theorem intEq {kk:IntKind}{a b:Int}(h:a=b):some (Value.int kk a)=some (Value.int kk b):=by rw [h]
theorem own_new {α:Type}(T:Ty α) (e:TypeId) (b:Nat) (l:List α) (n:Nat) (cs:List Value) (hcs:cs=T.cells l) (hn:n=l.length) (hle:l.length≤9223372036854775807) :
  ∃ s,s=[(b,Obj.cells cs.toArray e (0,0))]∧Own T e (some ⟨b,0,none⟩) n l s:=by
 subst hcs; subst hn
 refine ⟨_,rfl,[],by simp,.inr ⟨b,[],[],(0,0),by simp,by simp,zao _,by simpa using hle⟩⟩
theorem AtL.own1 {X:Pt}{k:List Item}{E:Env}{ds:List Deferred}{H:List Seg}{ops:Array Oper}{os:List Oper}{α:Type}(T:Ty α) {e:TypeId}{b:Nat}{l:List α}{n:Nat}{cs:Array Value}(hcs:cs=(T.cells l).toArray) (hn:n=l.length) (hle:l.length≤9223372036854775807)
  (h:∀ s,Own T e (some ⟨b,0,none⟩) n l s→AtL X ops os k E ds (s::H)):AtL X ops os k E ds ([(b,.cells cs e (0,0))]::H):=by
 obtain ⟨s,hs,ho⟩:=own_new T e b l n _ rfl hn hle
 have:=h s ho
 rw [hs,← hcs] at this
 exact this
theorem cellsOwn {w0:World}{base:Nat}{H:List Seg}{b:Nat}{cs:Array Value}{e:TypeId}{fr:Nat×Nat}{s:Seg}{vs:List Value}(i j o:Nat) (hi:H[i]? = some s) (hj:s[j]? = some (b,.cells cs e fr)) (hv:(cs.toList.drop o).take vs.length=vs) :
  ∀ q v,vs[q]? = some v→Cell w0 base H ((⟨b,o,none⟩:Addr).add q) v:=by
 intro q v hq
 rw [zai]
 refine Cell.own i j hi hj ?_
 rw [← hv,List.getElem?_take] at hq
 split at hq
 ·rw [List.getElem?_drop] at hq
  simpa using hq
 ·cases hq
def depsL (o:Oper):List Nat:=(o.after.toList.filter (Region.binds .any)).map (·.on)
def tmpsOf:List Operand→List Nat
 | [] => []
 | .tmp t::xs => t::tmpsOf xs
 | _::xs => tmpsOf xs
def readsOf (os:List Oper) (o:Oper):List Nat:=tmpsOf o.op.operands.toList++(match o.guard with
 | some (j,_) => match os[j]? with
  | some p => p.dst.toList
  | none => []
 | none => [])
def masks:List Oper→List Nat→List Nat
 | [],acc => acc
 | o::os,acc => masks os (acc++[(depsL o).foldl (fun s j => s ||| 2 ^ j ||| acc.getD j 0) 0])
def befB (M:List Nat) (j i:Nat):Bool:=(M.getD i 0).testBit j
def goesTo (o:Oper) (t:Nat):Bool:=match o.dst with
 | some d => Nat.beq d t
 | none => false
def okPair (M:List Nat) (os:List Oper) (i:Nat) (o:Oper) (j:Nat) (p:Oper):Bool :=
 Nat.beq i j || (match p.dst with
  | none => true
  | some t => !((readsOf os o).any (Nat.beq t) || goesTo o t) || (if Nat.blt j i then befB M j i else befB M i j))
def okTmps (os:List Oper):Bool :=
 let M:=masks os []
 os.zipIdx.all fun (o,i) => os.zipIdx.all fun (p,j) => okPair M os i o j p
def okDeps (os:List Oper):Bool:=os.zipIdx.all fun (o,i) => (depsL o).all fun j => Nat.blt j i
section masks
theorem foldl_bits (acc:List Nat) (l:List Nat) (s j:Nat) (h:(l.foldl (fun s j => s ||| 2 ^ j ||| acc.getD j 0) s).testBit j=true):s.testBit j=true∨∃ i ∈ l,i=j∨(acc.getD i 0).testBit j=true:=by
 induction l generalizing s with
 | nil => exact .inl h
 | cons a l ih =>
  rcases ih _ h with h | ⟨i,hi,h⟩
  ·simp only [Nat.testBit_or,Bool.or_eq_true] at h
   rcases h with (h | h) | h
   ·exact .inl h
   ·rw [Nat.testBit_two_pow] at h
    exact .inr ⟨a,by simp,.inl (by simpa using h)⟩
   ·exact .inr ⟨a,by simp,.inr h⟩
  ·exact .inr ⟨i,by simp [hi],h⟩
theorem zdT (os:List Oper) (acc:List Nat) (i:Nat) (hi:i < acc.length):(masks os acc).getD i 0=acc.getD i 0:=by
 induction os generalizing acc with
 | nil => rfl
 | cons o os ih =>
  rw [masks,ih _ (by simp; omega)]
  simp [List.getD,List.getElem?_append_left hi]
theorem masks_at (os:List Oper) (acc:List Nat) (i:Nat) (o:Oper) (ho:os[i]? = some o) (j:Nat) (h:((masks os acc).getD (acc.length + i) 0).testBit j=true) :
  ∃ m ∈ depsL o,m=j∨((masks os acc).getD m 0).testBit j=true:=by
 induction os generalizing acc i with
 | nil => simp at ho
 | cons p os ih =>
  cases i with
  | zero =>
   simp only [List.getElem?_cons_zero,Option.some.injEq] at ho
   subst ho
   rw [masks,zdT _ _ _ (by simp)] at h
   simp only [Nat.add_zero,List.getD,List.getElem?_append_right (Nat.le_refl _),Nat.sub_self,List.getElem?_cons_zero,Option.getD_some] at h
   rcases foldl_bits acc (depsL p) 0 j h with h | ⟨m,hm,h⟩
   ·simp at h
   ·refine ⟨m,hm,?_⟩
    rcases h with h | h
    ·exact .inl h
    ·right
     rw [masks]
     have hlt:m < acc.length:=by
      rcases Nat.lt_or_ge m acc.length with h' | h'
      ·exact h'
      ·simp [List.getD,List.getElem?_eq_none h'] at h
     rw [zdT _ _ _ (by simp; omega)]
     simpa [List.getD,List.getElem?_append_left hlt] using h
  | succ i =>
   simp only [List.getElem?_cons_succ] at ho
   rw [masks] at h ⊢
   refine ih (acc++[_]) i ho ?_
   simp only [List.length_append,List.length_cons,List.length_nil]
   rw [show acc.length + (0 + 1) + i=acc.length + (i + 1) from by omega]
   exact h
theorem masks_len (os:List Oper) (acc:List Nat):(masks os acc).length=acc.length + os.length:=by
 induction os generalizing acc with
 | nil => simp [masks]
 | cons o os ih => rw [masks,ih]; simp; omega
theorem zdB {os:List Oper}{D:Nat→Prop}(hD:∀ i o,os[i]? = some o→D i→∀ j ∈ depsL o,D j) (hdl:okDeps os=true):∀ (i:Nat) (o:Oper),os[i]? = some o→(∀ j ∈ depsL o,D j)→∀ j,befB (masks os []) j i=true→D j:=by
 intro i
 induction i using Nat.strongRecOn with
 | _ i ih =>
  intro o ho hr j hb
  have h:=masks_at os [] i o ho j (by simpa [befB] using hb)
  obtain ⟨m,hm,h⟩:=h
  have hDm:=hr m hm
  rcases h with rfl | h
  ·exact hDm
  ·have hlt:m < i:=by
    have:=List.all_eq_true.1 hdl (o,i) (List.mem_iff_getElem?.2 ⟨i,by simp [List.getElem?_zipIdx,ho]⟩)
    exact zbS (List.all_eq_true.1 this m hm)
   cases hp:os[m]? with
   | none =>
    have hlm:i < os.length:=(List.getElem?_eq_some_iff.1 ho).1
    rw [List.getElem?_eq_none_iff] at hp
    omega
   | some p => exact ih m hlt p hp (hD m p hp hDm) j h
end masks
def lastW (os:List Oper):Nat→Nat→Option Nat
 | 0,_ => none
 | i + 1,t => match os[i]? with
  | some o => match goesTo o t with
   | true => some i
   | false => lastW os i t
  | none => lastW os i t
def look (os:List Oper) (E0 val:Env) (i t:Nat):Option Value:=match lastW os i t with
 | some j => Env.get val j
 | none => Env.get E0 t
def preL (os:List Oper) (E0 val:Env) (i:Nat):List Nat→Env
 | [] => []
 | t::ts => match look os E0 val i t with
  | some v => (t,v)::preL os E0 val i ts
  | none => preL os E0 val i ts
def pre (os:List Oper) (E0 val:Env) (i:Nat):Env:=match os[i]? with
 | some o => preL os E0 val i (readsOf os o)
 | none => []
def finE:List Oper→Nat→Env→Env→Env
 | [],_,_,E => E
 | o::os,i,val,E => finE os (i + 1) val (match o.dst,Env.get val i with
  | some d,some v => (d,v)::E
  | _,_ => E)
def wantsB (os:List Oper) (E:Env) (g:Option (Nat×Bool)) (b:Bool):Prop:=match g with
 | none => b=true
 | some (j,want) => ∃ p t c,os[j]? = some p∧p.dst=some t∧Env.get E t=some (.bool c)∧(c == want)=b
def PureOne (X:Pt) (os:List Oper) (E0 val:Env) (H:List Seg) (i:Nat) (v:Value):Prop :=
 ∃ o,os[i]? = some o∧dstOk X.n o.dst=true∧((wantsB os (pre os E0 val i) o.guard true∧Does X (pre os E0 val i) H o.op (Is v H))∨(wantsB os (pre os E0 val i) o.guard false∧v=undef))
theorem zpr {X:Pt}{os:List Oper}{E0 val:Env}{H:List Seg}{i:Nat}{v:Value}{A:Prop}{o:Oper}(h1:os[i]? = some o) (h2:dstOk X.n o.dst=true) (h3:wantsB os (pre os E0 val i) o.guard true) (h:Does X (pre os E0 val i) H o.op (Is v H)):A∨PureOne X os E0 val H i v:=.inr ⟨o,h1,h2,.inl ⟨h3,h⟩⟩
def PureL (X:Pt) (os:List Oper) (E0 val xv:Env) (H:List Seg):Env→Prop
 | [] => True
 | (i,v)::r => ((xv.any fun p => befB (masks os []) i p.1)=true∨PureOne X os E0 val H i v)∧PureL X os E0 val xv H r
def isKnown (val:Env) (i:Nat):Bool:=(Env.get val i).isSome
def waits (os:List Oper) (val:Env) (e:Nat):Bool:=os.zipIdx.all fun (o,i) => isKnown val i || Nat.beq i e || (depsL o).any fun j => !isKnown val j
def Ph (X:Pt) (os:List Oper) (k:List Item) (E0:Env) (ds:List Deferred):List Nat→Env→Env→List Seg→Prop
 | [],pv,xv,H => PureL X os E0 (pv++xv) xv H pv∧(os.zipIdx.all fun (_,i) => isKnown (pv++xv) i)=true∧At X k (finE os 0 (pv++xv) E0) ds H
 | e::es,pv,xv,H => PureL X os E0 (pv++xv) xv H pv∧((e::es).all fun x => !isKnown (pv++xv) x)=true∧(es.all fun x => !Nat.beq x e)=true∧waits os (pv++xv) e=true ∧
  ∃ o,os[e]? = some o∧dstOk X.n o.dst=true∧wantsB os (pre os E0 (pv++xv) e) o.guard true∧∃ R,Does X (pre os E0 (pv++xv) e) H o.op R ∧
   ∀ v H',R v H'→∃ pv',(pv'.all fun p => !isKnown (pv++xv) p.1 && !Nat.beq p.1 e)=true∧Ph X os k E0 ds es (pv'++pv) ((e,v)::xv) H'
theorem zfT {E:Env}{i:Nat}{v:Value}(h:Env.get E i=some v):(i,v) ∈ E:=by
 induction E with
 | nil => simp [Env.get] at h
 | cons p E ih =>
  simp only [Env.get] at h
  by_cases e:p.1=i
  ·subst e
   simp at h
   subst h
   simp
  ·rw [zau e] at h
   simp [ih h]
theorem zav (a b:Env) (i:Nat):Env.get (a++b) i=match Env.get a i with | some v => some v | none => Env.get b i:=by
 induction a with
 | nil => rfl
 | cons p a ih =>
  simp only [List.cons_append,Env.get]
  cases Nat.beq p.1 i <;> simp [ih]
theorem PureL.get {X:Pt}{os:List Oper}{E0 val xv:Env}{H:List Seg}{pv:Env}(h:PureL X os E0 val xv H pv) {i:Nat}{v:Value}(hi:Env.get pv i=some v):(xv.any fun p => befB (masks os []) i p.1)=true∨PureOne X os E0 val H i v:=by
 induction pv with
 | nil => simp [Env.get] at hi
 | cons p pv ih =>
  obtain ⟨j,u⟩:=p
  simp only [Env.get] at hi
  by_cases e:j=i
  ·subst e
   simp at hi
   subst hi
   exact h.1
  ·rw [zau e] at hi
   exact ih h.2 hi
theorem lastW_some {os:List Oper}{i t j:Nat}(h:lastW os i t=some j):j < i∧(∃ o,os[j]? = some o∧goesTo o t=true)∧∀ m,j < m→m < i→∀ o,os[m]? = some o→goesTo o t=false:=by
 induction i with
 | zero => simp [lastW] at h
 | succ i ih =>
  simp only [lastW] at h
  cases ho:os[i]? with
  | none =>
   rw [ho] at h
   obtain ⟨h1,h2,h3⟩:=ih h
   refine ⟨by omega,h2,fun m hm1 hm2 o hom => ?_⟩
   by_cases e:m=i
   ·subst e; rw [ho] at hom; cases hom
   ·exact h3 m hm1 (by omega) o hom
  | some o =>
   rw [ho] at h
   simp only at h
   cases hg:goesTo o t with
   | true =>
    rw [hg] at h
    simp at h
    subst h
    exact ⟨by omega,⟨o,ho,hg⟩,fun m hm1 hm2 => by omega⟩
   | false =>
    rw [hg] at h
    obtain ⟨h1,h2,h3⟩:=ih h
    refine ⟨by omega,h2,fun m hm1 hm2 o' hom => ?_⟩
    by_cases e:m=i
    ·subst e; rw [ho] at hom; cases hom; exact hg
    ·exact h3 m hm1 (by omega) o' hom
theorem lastW_none {os:List Oper}{i t:Nat}(h:lastW os i t=none):∀ m,m < i→∀ o,os[m]? = some o→goesTo o t=false:=by
 induction i with
 | zero => intro m hm; omega
 | succ i ih =>
  simp only [lastW] at h
  intro m hm o hom
  cases ho:os[i]? with
  | none =>
   rw [ho] at h
   by_cases e:m=i
   ·subst e; rw [ho] at hom; cases hom
   ·exact ih h m (by omega) o hom
  | some o' =>
   rw [ho] at h
   simp only at h
   cases hg:goesTo o' t with
   | true => rw [hg] at h; cases h
   | false =>
    rw [hg] at h
    by_cases e:m=i
    ·subst e; rw [ho] at hom; cases hom; exact hg
    ·exact ih h m (by omega) o hom
structure AgD (n:Nat) (os:List Oper) (E0 val:Env) (D:Nat→Prop) (a:Array Value):Prop where
  size:a.size=n
  done:∀ j o t v,D j→os[j]? = some o→o.dst=some t→(∀ m,j < m→D m→∀ p,os[m]? = some p→goesTo p t=false)→Env.get val j=some v→a.getD t undef=v
  old:∀ t v,(∀ m,D m→∀ p,os[m]? = some p→goesTo p t=false)→Env.get E0 t=some v→a.getD t undef=v
theorem zbH {o:Oper}{t:Nat}:goesTo o t=true↔o.dst=some t:=by
 unfold goesTo
 cases o.dst with
 | none => simp
 | some d =>
  simp only [Option.some.injEq]
  constructor
  ·exact Nat.eq_of_beq_eq_true
  ·rintro rfl; simp
theorem zdI {os:List Oper}(h:okTmps os=true) {i j:Nat}{o p:Oper}(hi:os[i]? = some o) (hj:os[j]? = some p) (hne:i≠j) {t:Nat}(hp:p.dst=some t) (ht:t ∈ readsOf os o∨o.dst=some t) :
  (j < i→befB (masks os []) j i=true)∧(i < j→befB (masks os []) i j=true):=by
 have h1:=List.all_eq_true.1 h (o,i) (List.mem_iff_getElem?.2 ⟨i,by simp [List.getElem?_zipIdx,hi]⟩)
 have h2:=List.all_eq_true.1 h1 (p,j) (List.mem_iff_getElem?.2 ⟨j,by simp [List.getElem?_zipIdx,hj]⟩)
 unfold okPair at h2
 simp only [zau hne,hp] at h2
 have hc:((readsOf os o).any (Nat.beq t) || goesTo o t)=true:=by
  rw [Bool.or_eq_true]
  rcases ht with ht | ht
  ·left
   rw [List.any_eq_true]
   exact ⟨t,ht,by simp⟩
  ·right
   exact zbH.2 ht
 simp only [Bool.false_or,hc,Bool.not_true] at h2
 constructor
 ·intro hlt
  have hb:Nat.blt j i=true:=by simp [Nat.blt]; omega
  rw [hb] at h2
  simpa using h2
 ·intro hlt
  have hb:Nat.blt j i=false:=by
   cases hb:Nat.blt j i with
   | false => rfl
   | true => have:=zbS hb; omega
  rw [hb] at h2
  simpa using h2
section
variable {os:List Oper}{E0 val:Env}{D:Nat→Prop}{a:Array Value}{n:Nat}
theorem AgD.pre (h:AgD n os E0 val D a) (hok:okTmps os=true) (hdl:okDeps os=true) (hD:∀ i o,os[i]? = some o→D i→∀ j ∈ depsL o,D j) {i:Nat}{o:Oper}(ho:os[i]? = some o) (hn:¬ D i) (hr:∀ j ∈ depsL o,D j):Agree n a (pre os E0 val i):=by
 refine ⟨h.size,?_⟩
 have key:∀ ts:List Nat,(∀ t ∈ ts,t ∈ readsOf os o)→∀ t v,Env.get (preL os E0 val i ts) t=some v→a.getD t undef=v:=by
  intro ts
  induction ts with
  | nil => intro _ t v hv; simp [preL,Env.get] at hv
  | cons t0 ts ih =>
   intro hts t v hv
   simp only [preL] at hv
   have hts' : ∀ t ∈ ts,t ∈ readsOf os o:=fun t ht => hts t (by simp [ht])
   cases hl:look os E0 val i t0 with
   | none => rw [hl] at hv; exact ih hts' t v hv
   | some u =>
    rw [hl] at hv
    simp only [Env.get] at hv
    by_cases e:t0=t
    ·subst e
     simp at hv
     subst hv
     have hread:=hts t0 (by simp)
     have later:∀ m,i < m→D m→∀ p,os[m]? = some p→goesTo p t0=false:=by
      intro m hm hDm p hp
      cases hg:goesTo p t0 with
      | false => rfl
      | true =>
       have:=(zdI hok ho hp (by omega) (zbH.1 hg) (.inl hread)).2 hm
       exact absurd (zdB hD hdl m p hp (hD m p hp hDm) i this) hn
     unfold look at hl
     cases hw:lastW os i t0 with
     | none =>
      rw [hw] at hl
      refine h.old t0 u (fun m hDm p hp => ?_) hl
      rcases Nat.lt_trichotomy m i with hm | hm | hm
      ·exact lastW_none hw m hm p hp
      ·subst hm; exact absurd hDm hn
      ·exact later m hm hDm p hp
     | some j =>
      rw [hw] at hl
      obtain ⟨hj,⟨p,hp,hg⟩,hbetween⟩:=lastW_some hw
      have hbef:=(zdI hok ho hp (by omega) (zbH.1 hg) (.inl hread)).1 hj
      have hDj:=zdB hD hdl i o ho hr j hbef
      refine h.done j p t0 u hDj hp (zbH.1 hg) (fun m hm hDm q hq => ?_) hl
      rcases Nat.lt_trichotomy m i with hm2 | hm2 | hm2
      ·exact hbetween m hm hm2 q hq
      ·subst hm2; exact absurd hDm hn
      ·exact later m hm2 hDm q hq
    ·rw [zau e] at hv
     exact ih hts' t v hv
 intro t v hv
 unfold Proofs.YtdncjmehhahidaaGreatDoor.pre at hv
 rw [ho] at hv
 exact key _ (fun t ht => ht) t v hv
theorem AgD.step (h:AgD n os E0 val D a) (hok:okTmps os=true) (hdl:okDeps os=true) (hD:∀ i o,os[i]? = some o→D i→∀ j ∈ depsL o,D j) {i:Nat}{o:Oper}(ho:os[i]? = some o) (hn:¬ D i) (hd:dstOk n o.dst=true) {v:Value}(hv:Env.get val i=some v) :
  AgD n os E0 val (fun j => D j∨j=i) (putA a o.dst v):=by
 have apart:∀ m p t,D m→os[m]? = some p→p.dst=some t→o.dst=some t→m < i:=by
  intro m p t hDm hp hpd hod
  rcases Nat.lt_trichotomy m i with hm | hm | hm
  ·exact hm
  ·subst hm; exact absurd hDm hn
  ·have:=(zdI hok ho hp (by omega) hpd (.inr hod)).2 hm
   exact absurd (zdB hD hdl m p hp (hD m p hp hDm) i this) hn
 have other:∀ t,o.dst≠some t→(putA a o.dst v).getD t undef=a.getD t undef:=by
  intro t ht
  cases hod:o.dst with
  | none => rfl
  | some d =>
   have:d≠t:=by rintro rfl; exact ht hod
   simp only [putA,Array.getD_eq_getD_getElem?,Array.getElem?_setIfInBounds,if_neg this]
 refine ⟨?_,?_,?_⟩
 ·cases o.dst <;> simp [putA,h.size]
 ·intro j p t u hDj hp hpd hlast hu
  by_cases e:j=i
  ·subst e
   rw [ho] at hp
   cases hp
   rw [hv] at hu
   cases hu
   rw [hpd] at hd ⊢
   have hlt:=zbS hd
   simp [putA,Array.getD_eq_getD_getElem?,h.size,hlt]
  ·have hDj:D j:=hDj.resolve_right e
   have hne:o.dst≠some t:=by
    intro hod
    have hlt:=apart j p t hDj hp hpd hod
    have:=hlast i hlt (.inr rfl) o ho
    rw [zbH.2 hod] at this
    cases this
   rw [other t hne]
   exact h.done j p t u hDj hp hpd (fun m hm hDm q hq => hlast m hm (.inl hDm) q hq) hu
 ·intro t u hno hu
  have hne:o.dst≠some t:=by
   intro hod
   have:=hno i (.inr rfl) o ho
   rw [zbH.2 hod] at this
   cases this
  rw [other t hne]
  exact h.old t u (fun m hDm p hp => hno m (.inl hDm) p hp) hu
theorem AgD.fin (h:AgD n os E0 val D a) (hall:∀ i o,os[i]? = some o→D i) (hk:∀ i o,os[i]? = some o→(Env.get val i).isSome=true):Agree n a (finE os 0 val E0):=by
 refine ⟨h.size,?_⟩
 have key:∀ (l:List Oper) (i:Nat) (E:Env),(∀ m,l[m]? = os[i + m]?)→(∀ t v,Env.get E t=some v→(∀ m,i≤m→∀ p,os[m]? = some p→goesTo p t=false)→a.getD t undef=v)→∀ t v,Env.get (finE l i val E) t=some v→a.getD t undef=v:=by
  intro l
  induction l with
  | nil =>
   intro i E hl hE t v hv
   refine hE t v hv (fun m hm p hp => ?_)
   have:=hl (m - i)
   rw [show i + (m - i)=m from by omega,hp] at this
   simp at this
  | cons o l ih =>
   intro i E hl hE t v hv
   have ho:os[i]? = some o:=by have:=hl 0; simpa using this.symm
   rw [finE] at hv
   refine ih (i + 1) _ (fun m => ?_) (fun t' u hu hno => ?_) t v hv
   ·have:=hl (m + 1)
    rw [List.getElem?_cons_succ] at this
    rw [this]; congr 1; omega
   ·cases hd:o.dst with
    | none =>
     rw [hd] at hu
     refine hE t' u hu (fun m hm p hp => ?_)
     by_cases e:m=i
     ·subst e; rw [ho] at hp; cases hp; simp [goesTo,hd]
     ·exact hno m (by omega) p hp
    | some d =>
     have hsome:=hk i o ho
     cases hg:Env.get val i with
     | none => rw [hg] at hsome; cases hsome
     | some x =>
      rw [hd,hg] at hu
      simp only [Env.get] at hu
      by_cases e:d=t'
      ·subst e
       simp at hu
       subst hu
       exact h.done i o d x (hall i o ho) ho hd (fun m hm hDm p hp => hno m (by omega) p hp) hg
      ·rw [zau e] at hu
       refine hE t' u hu (fun m hm p hp => ?_)
       by_cases e2:m=i
       ·subst e2; rw [ho] at hp; cases hp
        unfold goesTo; rw [hd]; exact zau e
       ·exact hno m (by omega) p hp
 refine key os 0 E0 (fun m => by simp) (fun t v hv hno => ?_)
 exact h.old t v (fun m _ p hp => hno m (Nat.zero_le _) p hp) hv
end
def Dn (l:Array Bool) (i:Nat):Prop:=l.getD i false=true
theorem ready_mem {ops:Array Oper}{l:Array Bool}{i:Nat}(h:i ∈ Region.ready .any ops l):∃ o,ops[i]? = some o∧l.getD i true=false∧∀ j ∈ depsL o,Dn l j:=by
 unfold Region.ready at h
 rw [List.mem_filter] at h
 obtain ⟨h1,h2⟩:=h
 rw [Bool.and_eq_true,Bool.not_eq_true'] at h2
 obtain ⟨h2,h3⟩:=h2
 cases ho:ops[i]? with
 | none => rw [ho] at h3; simp at h3
 | some o =>
  rw [ho] at h3
  simp only [Option.map_some,Option.getD_some] at h3
  refine ⟨o,rfl,h2,fun j hj => ?_⟩
  obtain ⟨e,he,rfl⟩:=List.mem_map.1 hj
  rw [List.mem_filter] at he
  have:=Array.all_eq_true_iff_forall_mem.1 h3 e (by simpa using he.1)
  rw [he.2] at this
  simpa [Dn,Array.getD_eq_getD_getElem?] using this
theorem zfj (f:Nat→Bool) (i:Nat) (hf:f i=false):∀ (r:List Nat),r.Nodup→i ∈ r→(r.filter fun j => (f j || Nat.beq j i)).length=(r.filter f).length + 1:=by
 intro r
 induction r with
 | nil => intro _ h; cases h
 | cons b r ihr =>
  intro hnd2 hm
  rw [List.nodup_cons] at hnd2
  by_cases e:b=i
  ·subst e
   have hsame2:(r.filter fun j => (f j || Nat.beq j b))=r.filter f:=by
    apply List.filter_congr
    intro j hj
    have:j≠b:=by rintro rfl; exact hnd2.1 hj
    rw [zau this]; simp
   rw [List.filter_cons,List.filter_cons,hf,hsame2]
   simp
  ·have hm' : i ∈ r:=by simpa [Ne.symm e] using hm
   have:=ihr hnd2.2 hm'
   rw [List.filter_cons,List.filter_cons,zau e,Bool.or_false]
   cases f b <;> simp [this]
theorem not_dn {l:Array Bool}{i:Nat}(h:l.getD i true=false):¬ Dn l i:=by
 unfold Dn
 rw [Array.getD_eq_getD_getElem?] at h ⊢
 cases hi:l[i]? with
 | none => simp
 | some b => rw [hi] at h; simp at h; subst h; simp
theorem dn_set {l:Array Bool}{i:Nat}(hi:i < l.size) (j:Nat):Dn (l.setIfInBounds i true) j↔Dn l j∨j=i:=by
 unfold Dn
 rw [Array.getD_eq_getD_getElem?,Array.getD_eq_getD_getElem?,Array.getElem?_setIfInBounds]
 by_cases e:i=j
 ·subst e
  simp [hi]
 ·rw [if_neg e]
  constructor
  ·exact .inl
  ·rintro (h | h)
   ·exact h
   ·exact absurd h.symm e
theorem all_done {ops:Array Oper}{l:Array Bool}(hdl:okDeps ops.toList=true) (hs:l.size=ops.size) (h:Region.ready .any ops l=[]):∀ i o,ops.toList[i]? = some o→Dn l i:=by
 intro i
 induction i using Nat.strongRecOn with
 | _ i ih =>
  intro o ho
  have hlt:i < ops.size:=by have:=(List.getElem?_eq_some_iff.1 ho).1; simpa using this
  cases hb:l.getD i true with
  | true =>
   unfold Dn
   rw [Array.getD_eq_getD_getElem?] at hb ⊢
   rw [Array.getElem?_eq_getElem (by omega)] at hb ⊢
   simpa using hb
  | false =>
   exfalso
   have hdeps:∀ j ∈ depsL o,Dn l j:=by
    intro j hj
    have h1:=List.all_eq_true.1 hdl (o,i) (List.mem_iff_getElem?.2 ⟨i,by simp [List.getElem?_zipIdx,ho]⟩)
    have hlt:=zbS (List.all_eq_true.1 h1 j hj)
    have hlen:j < ops.toList.length:=by simpa using (show j < ops.size by omega)
    exact ih j hlt ops.toList[j] (List.getElem?_eq_getElem hlen)
   have hmem:i ∈ Region.ready .any ops l:=by
    unfold Region.ready
    rw [List.mem_filter]
    refine ⟨List.mem_range.2 hlt,?_⟩
    rw [Bool.and_eq_true,hb]
    refine ⟨rfl,?_⟩
    have ho' : ops[i]? = some o:=by rw [← Array.getElem?_toList]; exact ho
    rw [ho']
    simp only [Option.map_some,Option.getD_some]
    rw [Array.all_eq_true_iff_forall_mem]
    intro e he
    rw [Bool.or_eq_true,Bool.not_eq_true']
    cases hbd:Region.binds .any e with
    | false => exact .inl rfl
    | true => exact .inr (hdeps e.on (List.mem_map.2 ⟨e,List.mem_filter.2 ⟨by simpa using he,hbd⟩,rfl⟩))
   rw [h] at hmem
   cases hmem
section
variable {X:Pt}{k:List Item}{E0:Env}{ds:List Deferred}{ops:Array Oper}
theorem zcL {val:Env}{i:Nat}{o:Oper}{a:Array Value}(ha:Agree X.n a (pre ops.toList E0 val i)) (hn:∀ t v,Env.get (pre ops.toList E0 val i) t=some v→t < X.n) (h:wantsB ops.toList (pre ops.toList E0 val i) o.guard true):Region.wanted o (yielded ops a)=true:=by
 unfold wantsB at h
 cases hg:o.guard with
 | none => simp [Region.wanted,hg]
 | some gw =>
  obtain ⟨j,want⟩:=gw
  rw [hg] at h
  obtain ⟨p,t,c,hp,hpd,hc,hcw⟩:=h
  have hp' : ops[j]? = some p:=by rw [← Array.getElem?_toList]; exact hp
  have:=zcK (ops:=ops) (j:=j) (t:=t) ha (by rw [hp']; exact hpd) (by have:=hn t _ hc; simp [Nat.blt]; omega) hc
  simp only [Region.wanted,hg,this]
  simpa using hcw
theorem zed {val:Env}{i:Nat}{o:Oper}{a:Array Value}(ha:Agree X.n a (pre ops.toList E0 val i)) (hn:∀ t v,Env.get (pre ops.toList E0 val i) t=some v→t < X.n) (h:wantsB ops.toList (pre ops.toList E0 val i) o.guard false):Region.wanted o (yielded ops a)=false:=by
 unfold wantsB at h
 cases hg:o.guard with
 | none => rw [hg] at h; cases h
 | some gw =>
  obtain ⟨j,want⟩:=gw
  rw [hg] at h
  obtain ⟨p,t,c,hp,hpd,hc,hcw⟩:=h
  have hp' : ops[j]? = some p:=by rw [← Array.getElem?_toList]; exact hp
  have:=zcK (ops:=ops) (j:=j) (t:=t) ha (by rw [hp']; exact hpd) (by have:=hn t _ hc; simp [Nat.blt]; omega) hc
  simp only [Region.wanted,hg,this]
  cases c <;> cases want <;> simp_all
theorem draw_go (hok:okTmps ops.toList=true) (hdl:okDeps ops.toList=true) (hrd:(ops.toList.all fun o => (readsOf ops.toList o).all fun t => Nat.blt t X.n)=true) :
  ∀ (fuel t:Nat) (l:Array Bool) (es:List Nat) (pv xv:Env) (H:List Seg) (a:Array Value) (w:World),l.size=ops.size→(∀ i o,ops.toList[i]? = some o→Dn l i→∀ j ∈ depsL o,Dn l j) →
   (∀ i o,ops.toList[i]? = some o→Dn l i→isKnown (pv++xv) i=true)→(∀ p ∈ xv,Dn l p.1)→(∀ e ∈ es,¬ Dn l e) →
   (ops.size≤fuel + ((List.range ops.size).filter fun i => l.getD i false).length)→Ph X ops.toList k E0 ds es pv xv H→AgD X.n ops.toList E0 (pv++xv) (Dn l) a→Sep X.w0 X.base w H →
   Ev X.P (lone (X.c.fr a ds (.inRegion ops (Region.linearise.go .any ops fuel t l [])::k)) X.cs w) X.G:=by
 intro fuel
 induction fuel with
 | zero =>
  intro t l es pv xv H a w hs hcl hkn hxv hes hf hp ha S
  have hall:∀ i o,ops.toList[i]? = some o→Dn l i:=by
   intro i o ho
   have hlt:i < ops.size:=by have:=(List.getElem?_eq_some_iff.1 ho).1; simpa using this
   have hle:((List.range ops.size).filter fun i => l.getD i false).length≤ops.size:=by
    have:=List.length_filter_le (fun i => l.getD i false) (List.range ops.size)
    simpa using this
   have heq:((List.range ops.size).filter fun i => l.getD i false).length=(List.range ops.size).length:=by rw [List.length_range]; omega
   have:=List.length_filter_eq_length_iff.1 heq i (List.mem_range.2 hlt)
   exact this
  cases es with
  | cons e es =>
   obtain ⟨_,_,_,_,o,ho,_⟩:=hp
   exact absurd (hall e o ho) (hes e (by simp))
  | nil =>
   obtain ⟨_,hkn2,hat⟩:=hp
   simp only [Region.linearise.go,List.reverse_nil]
   refine .step za4 (hat a w (ha.fin hall (fun i o ho => ?_)) S)
   exact hkn i o ho (hall i o ho)
 | succ fuel ih =>
  intro t l es pv xv H a w hs hcl hkn hxv hes hf hp ha S
  simp only [Region.linearise.go]
  split
  ·rename_i i hi
   rw [linearise_go_acc]
   simp only [List.reverse_cons,List.reverse_nil,List.nil_append,List.singleton_append]
   have hmem:i ∈ Region.ready .any ops l:=List.mem_iff_getElem?.2 ⟨_,hi⟩
   obtain ⟨o,ho,hnl,hdeps⟩:=ready_mem hmem
   have hnd:=not_dn hnl
   have hoL:ops.toList[i]? = some o:=by rw [Array.getElem?_toList]; exact ho
   have hlt:i < ops.size:=(Array.getElem?_eq_some_iff.1 ho).1
   have hAg:=ha.pre hok hdl hcl hoL hnd hdeps
   have hprelt:∀ t v,Env.get (pre ops.toList E0 (pv++xv) i) t=some v→t < X.n:=by
    have h1:=List.all_eq_true.1 hrd o (List.mem_iff_getElem?.2 ⟨i,hoL⟩)
    have key:∀ ts:List Nat,(∀ t ∈ ts,t < X.n)→∀ t v,Env.get (preL ops.toList E0 (pv++xv) i ts) t=some v→t < X.n:=by
     intro ts
     induction ts with
     | nil => intro _ t v hv; simp [preL,Env.get] at hv
     | cons t0 ts ih =>
      intro hts t v hv
      simp only [preL] at hv
      split at hv
      ·simp only [Env.get] at hv
       by_cases e:t0=t
       ·subst e; exact hts t0 (by simp)
       ·rw [zau e] at hv
        exact ih (fun t ht => hts t (by simp [ht])) t v hv
      ·exact ih (fun t ht => hts t (by simp [ht])) t v hv
    intro t v hv
    unfold pre at hv
    rw [hoL] at hv
    exact key _ (fun t ht => zbS (List.all_eq_true.1 h1 t ht)) t v hv
   -- what is the same in each case behind the operation
   have after:∀ (es' : List Nat) (pv' xv' : Env) (H' : List Seg) (v:Value) (w' : World),Ph X ops.toList k E0 ds es' pv' xv' H'→Sep X.w0 X.base w' H'→dstOk X.n o.dst=true→Env.get (pv'++xv') i=some v →
     (∀ j,isKnown (pv++xv) j=true→Env.get (pv'++xv') j=Env.get (pv++xv) j)→(∀ p ∈ xv',Dn l p.1∨p.1=i)→(∀ e ∈ es',e≠i∧¬ Dn l e) →
     Ev X.P (lone (X.c.fr (putA a o.dst v) ds (.inRegion ops (Region.linearise.go .any ops fuel (t / (Region.ready .any ops l).length) (l.setIfInBounds i true) [])::k)) X.cs w') X.G:=by
    intro es' pv' xv' H' v w' hp' S' hd hv hsame hxv' hes'
    have hds:=dn_set (l:=l) (i:=i) (by omega)
    have hAgD:AgD X.n ops.toList E0 (pv'++xv') (Dn l) a:=by
     refine ⟨ha.size,fun j p t u hDj hp hpd hlast hu => ?_,ha.old⟩
     refine ha.done j p t u hDj hp hpd hlast ?_
     rw [← hsame j (hkn j p hp hDj)]
     exact hu
    have hst:=hAgD.step hok hdl hcl hoL hnd hd hv
    refine ih _ _ es' pv' xv' H' _ w' (by simpa using hs) ?_ ?_ ?_ ?_ ?_ hp' ?_ S'
    ·intro j p hj hDj m hm
     rw [hds] at hDj ⊢
     rcases hDj with hDj | rfl
     ·exact .inl (hcl j p hj hDj m hm)
     ·rw [hoL] at hj; cases hj
      exact .inl (hdeps m hm)
    ·intro j p hj hDj
     rw [hds] at hDj
     rcases hDj with hDj | rfl
     ·have:=hkn j p hj hDj
      unfold isKnown at this ⊢
      rw [hsame j this]; exact this
     ·unfold isKnown; rw [hv]; rfl
    ·intro p hp
     rw [hds]; exact hxv' p hp
    ·intro e he hDe
     rw [hds] at hDe
     rcases hDe with h | h
     ·exact (hes' e he).2 h
     ·exact (hes' e he).1 h
    ·have hcount:((List.range ops.size).filter fun j => (l.setIfInBounds i true).getD j false).length=((List.range ops.size).filter fun j => l.getD j false).length + 1:=by
      have hp:∀ j,(l.setIfInBounds i true).getD j false=(l.getD j false || Nat.beq j i):=by
       intro j
       have:(l.setIfInBounds i true).getD j false=true↔l.getD j false=true∨j=i:=hds j
       rw [Bool.eq_iff_iff,Bool.or_eq_true,this]
       constructor
       ·rintro (h | h)
        ·exact .inl h
        ·exact .inr (by subst h; simp)
       ·rintro (h | h)
        ·exact .inl h
        ·exact .inr (Nat.eq_of_beq_eq_true h)
      have hif:l.getD i false=false:=by
       cases hb:l.getD i false with
       | false => rfl
       | true => exact absurd hb hnd
      have hset:(List.range ops.size).filter (fun j => (l.setIfInBounds i true).getD j false)=(List.range ops.size).filter fun j => ((fun j => l.getD j false) j || Nat.beq j i):=List.filter_congr fun j _ => hp j
      rw [hset]
      exact zfj _ i hif _ List.nodup_range (List.mem_range.2 hlt)
     omega
    ·refine ⟨hst.size,?_,?_⟩
     ·intro j p t u hDj hp hpd hlast hu
      exact hst.done j p t u ((hds j).1 hDj) hp hpd (fun m hm hDm q hq => hlast m hm ((hds m).2 hDm) q hq) hu
     ·intro t u hno hu
      exact hst.old t u (fun m hDm p hp => hno m ((hds m).2 hDm) p hp) hu
   -- an operation whose value is known in this phase
   have pureCase:∀ v,Env.get pv i=some v→PureL X ops.toList E0 (pv++xv) xv H pv→i ∉ es →
     Ev X.P (lone (X.c.fr a ds (.inRegion ops (i::Region.linearise.go .any ops fuel (t / (Region.ready .any ops l).length) (l.setIfInBounds i true) [])::k)) X.cs w) X.G:=by
    intro v hv hpl hne
    have hone:PureOne X ops.toList E0 (pv++xv) H i v:=by
     rcases hpl.get hv with h | h
     ·obtain ⟨p,hp1,hp2⟩:=List.any_eq_true.1 h
      have hDp:=hxv p hp1
      cases hop:ops.toList[p.1]? with
      | none =>
       exfalso
       have hlen:(masks ops.toList []).length=ops.toList.length:=by have:=masks_len ops.toList []; simpa using this
       have hnone:(masks ops.toList []).getD p.1 0=0:=by
        rw [List.getElem?_eq_none_iff] at hop
        simp [List.getD,List.getElem?_eq_none (show (masks ops.toList []).length≤p.1 by omega)]
       unfold befB at hp2
       rw [hnone] at hp2
       simp at hp2
      | some q => exact absurd (zdB hcl hdl p.1 q hop (hcl p.1 q hop hDp) i hp2) hnd
     ·exact h
    obtain ⟨o',ho',hd,hor⟩:=hone
    rw [hoL] at ho'; cases ho'
    have hget:Env.get (pv++xv) i=some v:=by rw [zav,hv]
    have hcont:=fun (w' : World) (S' : Sep X.w0 X.base w' H) => after es pv xv H v w' hp S' hd hget (fun j _ => rfl) (fun p hp => .inl (hxv p hp)) (fun e he => ⟨fun h => hne (h ▸ he),hes e he⟩)
    rcases hor with ⟨hw,hdo⟩ | ⟨hw,rfl⟩
    ·obtain ⟨v',H',w',⟨rfl,rfl⟩,S',hst⟩:=hdo o.dst o.type o.pos o.after o.guard ops i _ k ds a w ho (zcL hAg hprelt hw) (fun x u hx => hAg.ev hx) S
     exact .steps hst (hcont w' S')
    ·exact .step (zcY ho (zed hAg hprelt hw)) (hcont w S)
   cases es with
   | nil =>
    obtain ⟨hpl,hall,hat⟩:=hp
    have hk1:=List.all_eq_true.1 hall (o,i) (List.mem_iff_getElem?.2 ⟨i,by simp [List.getElem?_zipIdx,hoL]⟩)
    have hk1:isKnown (pv++xv) i=true:=hk1
    cases hv:Env.get pv i with
    | some v => exact pureCase v hv hpl (by simp)
    | none =>
     unfold isKnown at hk1
     rw [zav,hv] at hk1
     cases hx:Env.get xv i with
     | none => rw [hx] at hk1; cases hk1
     | some u => exact absurd (hxv _ (zfT hx)) hnd
   | cons e es =>
    have hp0:=hp
    obtain ⟨hpl,hek,hnd2,hwt,oe,hoe,hd,hw,R,hdo,hR⟩:=hp
    have hunk:∀ x ∈ e::es,Env.get (pv++xv) x=none:=by
     intro x hx
     have:=List.all_eq_true.1 hek x hx
     unfold isKnown at this
     cases hg:Env.get (pv++xv) x with
     | none => rfl
     | some u => rw [hg] at this; cases this
    by_cases hie:i=e
    ·subst hie
     rw [hoL] at hoe; cases hoe
     obtain ⟨v,H',w',hRv,S',hst⟩:=hdo o.dst o.type o.pos o.after o.guard ops i (Region.linearise.go .any ops fuel (t / (Region.ready .any ops l).length) (l.setIfInBounds i true) []) k ds a w ho (zcL hAg hprelt hw) (fun x u hx => hAg.ev hx) S
     obtain ⟨pv',hpv',hp'⟩:=hR v H' hRv
     refine .steps hst ?_
     have hfresh:∀ j u,Env.get pv' j=some u→Env.get (pv++xv) j=none∧j≠i:=by
      intro j u hj
      have hm:∃ p ∈ pv',p.1=j:=by
       clear hp' hpv'
       induction pv' with
       | nil => simp [Env.get] at hj
       | cons p pv' ihp =>
        simp only [Env.get] at hj
        by_cases e:p.1=j
        ·exact ⟨p,by simp,e⟩
        ·rw [zau e] at hj
         obtain ⟨q,hq,hq2⟩:=ihp hj
         exact ⟨q,by simp [hq],hq2⟩
      obtain ⟨p,hp1,rfl⟩:=hm
      have:=List.all_eq_true.1 hpv' p hp1
      rw [Bool.and_eq_true,Bool.not_eq_true',Bool.not_eq_true'] at this
      refine ⟨?_,?_⟩
      ·have h1:=this.1
       unfold isKnown at h1
       cases hg:Env.get (pv++xv) p.1 with
       | none => rfl
       | some u => rw [hg] at h1; cases h1
      ·intro e
       have h2:=this.2
       rw [e] at h2
       simp at h2
     have hi0:=hunk i (by simp)
     have hpi:Env.get pv i=none:=by
      rw [zav] at hi0
      cases hg:Env.get pv i with
      | none => rfl
      | some u => rw [hg] at hi0; cases hi0
     have hget:Env.get ((pv'++pv)++((i,v)::xv)) i=some v:=by
      rw [zav,zav]
      cases hg:Env.get pv' i with
      | some u => exact absurd rfl (hfresh i u hg).2
      | none => simp [hpi,Env.get]
     refine after es _ _ H' v w' hp' S' hd hget ?_ ?_ ?_
     ·intro j hj
      have hj0:Env.get (pv++xv) j≠none:=by
       unfold isKnown at hj
       intro h; rw [h] at hj; cases hj
      have hji:j≠i:=by rintro rfl; exact hj0 hi0
      rw [zav,zav,zav]
      cases hg:Env.get pv' j with
      | some u => exact absurd (hfresh j u hg).1 hj0
      | none =>
       cases hg2:Env.get pv j with
       | some u => rfl
       | none => simp only [Env.get,zau (Ne.symm hji)]
     ·intro p hp
      rcases List.mem_cons.1 hp with rfl | hp
      ·exact .inr rfl
      ·exact .inl (hxv p hp)
     ·intro e he
      refine ⟨?_,hes e (by simp [he])⟩
      rintro rfl
      have:=List.all_eq_true.1 hnd2 e he
      simp at this
    ·have hk1:=List.all_eq_true.1 hwt (o,i) (List.mem_iff_getElem?.2 ⟨i,by simp [List.getElem?_zipIdx,hoL]⟩)
     have hk1:(isKnown (pv++xv) i || Nat.beq i e || (depsL o).any fun j => !isKnown (pv++xv) j)=true:=hk1
     have hany:((depsL o).any fun j => !isKnown (pv++xv) j)=false:=by
      cases hb:((depsL o).any fun j => !isKnown (pv++xv) j) with
      | false => rfl
      | true =>
       obtain ⟨j,hj,hjk⟩:=List.any_eq_true.1 hb
       have hDj:=hdeps j hj
       have hjlt:j < i:=by
        have h1:=List.all_eq_true.1 hdl (o,i) (List.mem_iff_getElem?.2 ⟨i,by simp [List.getElem?_zipIdx,hoL]⟩)
        exact zbS (List.all_eq_true.1 h1 j hj)
       have hjl:j < ops.toList.length:=by simpa using (show j < ops.size by omega)
       have:=hkn j _ (List.getElem?_eq_getElem hjl) hDj
       rw [this] at hjk; cases hjk
     rw [zau hie,hany,Bool.or_false,Bool.or_false] at hk1
     have hnes:i ∉ e::es:=by
      intro hm
      have:=hunk i hm
      unfold isKnown at hk1
      rw [this] at hk1; cases hk1
     cases hv:Env.get pv i with
     | some v => exact pureCase v hv hpl hnes
     | none =>
      unfold isKnown at hk1
      rw [zav,hv] at hk1
      cases hx:Env.get xv i with
      | none => rw [hx] at hk1; cases hk1
      | some u => exact absurd (hxv _ (zfT hx)) hnd
  ·rename_i hnone
   have hempty:Region.ready .any ops l=[]:=by
    cases hr:Region.ready .any ops l with
    | nil => rfl
    | cons b r =>
     have hlen:t % (Region.ready .any ops l).length < (Region.ready .any ops l).length:=Nat.mod_lt _ (by rw [hr]; simp)
     exact absurd hnone (by
      show ¬ (Region.ready .any ops l)[t % (Region.ready .any ops l).length]? = none
      rw [List.getElem?_eq_getElem hlen]; simp)
   have hall:=all_done hdl hs hempty
   cases es with
   | cons e es =>
    obtain ⟨_,_,_,_,o,ho,_⟩:=hp
    exact absurd (hall e o ho) (hes e (by simp))
   | nil =>
    obtain ⟨_,hkn2,hat⟩:=hp
    simp only [List.reverse_nil]
    refine .step za4 (hat a w (ha.fin hall (fun i o ho => ?_)) S)
    exact hkn i o ho (hall i o ho)
theorem At.draw {id:Nat}{es:List Nat}{pv:Env}{H:List Seg}(hm:X.P.follows .mixedOrders=true) (hok:okTmps ops.toList=true) (hdl:okDeps ops.toList=true) (hrd:(ops.toList.all fun o => (readsOf ops.toList o).all fun t => Nat.blt t X.n)=true)
  (hp:Ph X ops.toList k E0 ds es pv [] H):At X (.code (.region id ops true)::k) E0 ds H:=by
 intro a w ha S
 refine .step zc2 ?_
 have hno:∀ i,¬ Dn (Array.replicate ops.size false) i:=by
  intro i hi
  unfold Dn at hi
  rw [Array.getD_eq_getD_getElem?,Array.getElem?_replicate] at hi
  split at hi <;> simp at hi
 unfold Region.schedule Region.linearise
 rw [hm,Bool.true_or,if_pos rfl]
 refine draw_go hok hdl hrd ops.size _ _ es pv [] H a _ (by simp) ?_ ?_ ?_ ?_ (Nat.le_add_right _ _) hp ⟨ha.size,?_,?_⟩ (S.drawn _)
 ·exact fun i o _ h => absurd h (hno i)
 ·exact fun i o _ h => absurd h (hno i)
 ·intro p h; cases h
 ·exact fun e _ => hno e
 ·exact fun j o t v h => absurd h (hno j)
 ·exact fun t v _ h => ha.get t v h
theorem Do.asBool {X:Pt}{E:Env}{H:List Seg}{op:Op}{b c:Bool}(h:Does X E H op (Is (.bool b) H)) (hb:b=c):Does X E H op (Is (.bool c) H):=hb ▸ h
theorem Do.asInt {X:Pt}{E:Env}{H:List Seg}{op:Op}{kk:IntKind}{b c:Int}(h:Does X E H op (Is (.int kk b) H)) (hb:b=c):Does X E H op (Is (.int kk c) H):=hb ▸ h
section
variable {X:Pt}{E:Env}{H:List Seg}{α:Type}{T:Ty α}{xt e:TypeId}{x:Operand}{lo hi mx:Option Operand}{A A' : Option Addr}{C C' : Nat}{l:List α}
end
end
def LoadsTo (P:Program) (w0:World) (base:Nat) (H:List Seg) (t:TypeId) (p:Addr) (v:Value):Prop:=∀ w,Sep w0 base w H→(loadVar t p).run P w = .ok v w
theorem LoadsTo.flat {P:Program}{w0:World}{base:Nat}{H:List Seg}{t:TypeId}{p:Addr}{v:Value}(hf:flatB P t=true) (hc:Cell w0 base H p v):LoadsTo P w0 base H t p v:=fun w S => by
 simp [loadVar,zdN hf,hc w S]
theorem LoadsTo.agg {P:Program}{w0:World}{base:Nat}{H:List Seg}{t n:Nat}{p:Addr}{cs:List Value}(hf:aggN P t=some n) (hn:cs.length=n) (hc:∀ j v,cs[j]? = some v→Cell w0 base H (p.add j) v):LoadsTo P w0 base H t p (.agg cs.toArray):=fun w S => by
 subst hn
 simp [loadVar,(zcf hf w).1,(zcf hf w).2,run_loadCells_list w p cs (fun j v hv => hc j v hv w S)]
def ResP (P:Program) (w0:World) (base:Nat) (H:List Seg) (E:Env):List ResultVar→List Value→Prop
 | [],[] => True
 | .tmp t::rs,v::vs => Env.get E t=some v∧ResP P w0 base H E rs vs
 | .cell x t::rs,v::vs => (∃ p,Env.get E x=some (.pointer (some p))∧LoadsTo P w0 base H t p v)∧ResP P w0 base H E rs vs
 | _,_ => False
theorem resP_run {P:Program}{n:Nat}{a:Array Value}{E:Env}(ha:Agree n a E) {w0:World}{base:Nat}{H:List Seg}{w:World}(S:Sep w0 base w H) {rs:List ResultVar}{vs:List Value}(h:ResP P w0 base H E rs vs) :
  (rs.mapM (m:=Sem) fun (r:ResultVar) => match r with
   | .tmp t => (Pure.pure (a.getD t undef):Sem Value)
   | .cell x t => do loadVar t (← asAddr (a.getD x undef))).run P w = .ok vs w:=by
 induction rs generalizing vs with
 | nil => cases vs with
  | nil => rfl
  | cons v vs => exact h.elim
 | cons r rs ih =>
  cases vs with
  | nil => cases r <;> exact h.elim
  | cons v vs =>
   cases r with
   | tmp t =>
    obtain ⟨h1,h2⟩:=h
    rw [List.mapM_cons]
    simp only [Sem.run_bind,Sem.run_pure,Result.andThen_ok,ih h2,ha.get t v h1]
   | cell x t =>
    obtain ⟨⟨p,h1,h3⟩,h2⟩:=h
    have hp:(asAddr (a.getD x undef)).run P w = .ok p w:=by rw [ha.get x _ h1]; rfl
    rw [List.mapM_cons]
    simp only [Sem.run_bind,Sem.run_pure,Result.andThen_ok,ih h2,hp,h3 w S]
theorem zc6 {P:Program}{n:Nat}{a:Array Value}{E:Env}(ha:Agree n a E) {w0:World}{base:Nat}{H:List Seg}{w:World}(S:Sep w0 base w H) {fn:Func}{vs:List Value}(h:ResP P w0 base H E fn.results.toList vs) :
  (results fn a).run P w = .ok (oneOf vs) w:=by
 have:=resP_run (P:=P) ha S h
 unfold results
 rw [Array.mapM_eq_mapM_toList]
 simp only [Sem.run_bind,map_eq_pure_bind,Sem.run_pure] at this ⊢
 refine Eq.trans ?_ (congrArg (fun r => Result.ok r w) (show (if h:vs.toArray.size=1 then vs.toArray[0] else .tuple vs.toArray)=oneOf vs from ?_))
 ·exact (congrArg (fun r => Result.andThen r _) (congrArg (fun r => Result.andThen r _) this)).trans (by simp [Result.andThen_ok])
 ·match vs with
  | [] => rfl
  | [v] => rfl
  | v::u::vs => rfl
def Un (X:Pt) (m:FrameMode) (E:Env) (ds:List Deferred) (H:List Seg):Prop :=
 ∀ a w k,Agree X.n a E→Sep X.w0 X.base w H→Ev X.P (lone { X.c.fr a ds k with mode:=m } X.cs w) X.G
section
variable {X:Pt}{k:List Item}{E:Env}{ds:List Deferred}{H:List Seg}{ops:Array Oper}{os:List Oper}
theorem Un.mono {m:FrameMode}{E' : Env}(hs:Sub E' E) (h:Un X m E' ds H):Un X m E ds H:=fun a w k ha S => h a w k (ha.sub hs) S
theorem Un.pick {m:FrameMode}{H' : List Seg}(is:List Nat) (q:Nat) (hok:pickOk is q=true) (hH:pickSegs H is q=H') (h:Un X m E ds H'):Un X m E ds H:=fun a w k ha S => h a w k ha (hH ▸ S.pick is q hok)
theorem At.retU (hr:X.c.round=none) (h:Un X .returning E ds H):At X (.code .ret::k) E ds H:=fun a w ha S => .step (go_ret hr) (h a w _ ha S)
theorem At.endU (hr:X.c.round=none) (h:Un X .returning E ds H):At X [] E ds H:=fun a w ha S => .step (go_end hr) (h a w _ ha S)
end
theorem Un.left {P:Program}{f:FuncId}{fn:Func}{n:Nat}{cs:List Frame}{w0:World}{base:Nat}{H:List Seg}{R:Value→List Seg→Prop}{E:Env}{rs:List ResultVar}{vs:List Value}
  (hf:P.funcs[f]? = some fn) (hrs:fn.results.toList=rs) (hv:ResP P w0 base H E rs vs) (hR:R (oneOf vs) H):Un ⟨P,⟨f,.normal,none⟩,n,cs,Left P f cs w0 base R,w0,base⟩ .returning E [] H:=by
 intro a w k ha S
 subst hrs
 exact ⟨_,.refl P _,oneOf vs,H,_,w,rfl,rfl,⟨rfl,rfl,rfl,fn,hf,zc6 ha S hv⟩,hR,S⟩
section panics
variable {X:Pt}{k:List Item}{E:Env}{ds:List Deferred}{H:List Seg}{ops:Array Oper}{os:List Oper}
  {dst:Option Tmp}{ty:TypeId}{pos:String}{after:Array Edge}{g:Option (Nat×Bool)}
theorem AtL.panics {op:Op}(hg:Wd X ops E g) (hnd:Op.isDefer op=false)
  (h:∀ ρ w,(∀ x v,ev E x=some v→ρ x=v)→Sep X.w0 X.base w H→∃ pv w' H',(execOp ρ ⟨dst,op,ty,pos,after,g⟩).run X.P w = .halt (.panic pv) w'∧Sep X.w0 X.base w' H'∧Un X (.panicking [{ v:=pv,recovered:=false }]) E ds H') :
  AtL X ops (⟨dst,op,ty,pos,after,g⟩::os) k E ds H:=by
 intro is hi a w ha S
 cases is with
 | nil => simp at hi
 | cons i is =>
  simp only [List.map_cons,List.cons.injEq] at hi
  obtain ⟨ho,hi⟩:=hi
  obtain ⟨pv,w',H',hr,S',hk⟩:=h (evA a) w (fun x v hx => ha.ev hx) S
  refine .step (step_lone_go ?_) (hk a w' (.inRegion ops (i::is)::k) ha S')
  rw [za3 ho (hg.wanted (o:=⟨dst,op,ty,pos,after,g⟩) ha) (.inl hnd)]
  simp [stepG.apply,hr,Frame.raise,Ctx.fr]
theorem zdW {P:Program}{w0:World}{base:Nat}{w:World}(S:Sep w0 base w H) (kk:IntKind) (x y:Int) (c:BoundsCode) :
  ∃ s w',(boundsPanic (α:=Value) kk x y c).run P w = .halt (.panic (.iface P.rt.boundsError (.agg #[.int .i64 (IntKind.i64.wrap x),.int .i64 y,.bool s,.int .u8 (c.toNat:Int)]))) w'∧Sep w0 base w' H:=by
 unfold boundsPanic
 by_cases hc:(kk != .u64 && decide (0≤x) && decide (x≤31))=true
 ·refine ⟨(Question.extern "runtime.boundsError.signed" 2).cut (w.tape w.drawn (.extern "runtime.boundsError.signed" 2)) == 1,w.drew,?_,S.drawn _⟩
  rw [if_pos hc]
  have hch:(choose (.extern "runtime.boundsError.signed" 2)).run P w = .ok ((Question.extern "runtime.boundsError.signed" 2).cut (w.tape w.drawn (.extern "runtime.boundsError.signed" 2))) w.drew:=rfl
  simp only [Sem.run_bind,Sem.run_map,hch,Result.andThen_ok,runtimePanic,run_program,run_goPanic]
 ·refine ⟨kk != .u64,w,?_,S⟩
  rw [if_neg hc]
  simp only [Sem.run_bind,Sem.run_pure,Result.andThen_ok,runtimePanic,run_program,run_goPanic]
theorem AtL.indexPanics {t e:TypeId}{x ix:Operand}{A:Option Addr}{n C:Nat}{kk:IntKind}{i:Int}(hu:X.P.underlying t=some (.slice e)) (hg:Wd X ops E g) (hx:ev E x=some (.slice A n C)) (hi:ev E ix=some (.int kk i)) (hout:i < 0∨(n:Int)≤i)
  (hk:∀ (m:Int) (s:Bool),Un X (.panicking [{ v:=.iface X.P.rt.boundsError (.agg #[.int .i64 (IntKind.i64.wrap i),.int .i64 m,.bool s,.int .u8 0]),recovered:=false }]) E ds H) :
  AtL X ops (⟨dst,.indexAddr t x ix,ty,pos,after,g⟩::os) k E ds H :=
 AtL.panics hg rfl fun ρ w hρ S => by
  cases A with
  | none =>
   obtain ⟨s,w',hr,S'⟩:=zdW (P:=X.P) S kk i 0 .index
   refine ⟨_,w',H,?_,S',hk 0 s⟩
   simp [execOp,hρ _ _ hx,hρ _ _ hi,Instr.indexAt,asIntOf,run_underlying hu,hr]
   rfl
  | some a =>
   obtain ⟨s,w',hr,S'⟩:=zdW (P:=X.P) S kk i n .index
   refine ⟨_,w',H,?_,S',hk n s⟩
   have hno:¬ (0≤i∧i < (n:Int)):=by omega
   simp only [execOp,hρ _ _ hx,hρ _ _ hi,Instr.indexAt,asIntOf,Sem.run_bind,Sem.run_pure,Result.andThen_ok,run_underlying hu]
   rw [if_neg hno]
   simp only [Bool.and_false,Bool.false_eq_true,if_false,hr,Result.andThen_halt]
   rfl
theorem AtL.defer {f:FuncId}{x:Operand}{u c:Array Value}{xs:Array Operand}{ts:Array TypeId}{args:List Value}(hr:X.c.round=none) (hg:Wd X ops E g) (hd:dstOk X.n dst=true) (hv:ev E x=some (.func (.func f) u c)) (hx:evs E xs.toList=some args)
  (hk:AtL X ops os k (putE E dst undef) ({ target:=.fn (.func f) c,args:=u++args.toArray }::ds) H):AtL X ops (⟨dst,.defer ⟨.value x,xs,ts⟩,ty,pos,after,g⟩::os) k E ds H:=by
 intro is hi a w ha S
 cases is with
 | nil => simp at hi
 | cons i is =>
  simp only [List.map_cons,List.cons.injEq] at hi
  obtain ⟨ho,hi⟩:=hi
  refine .step (zeA ho (hg.wanted (o:=⟨dst,.defer ⟨.value x,xs,ts⟩,ty,pos,after,g⟩) ha) (.inr hr) ?_) (hk is hi _ _ (ha.put hd undef) S)
  simp [execOp,resolve,Deferred.ofValue,ha.ev hv,zbb (fun x v h => ha.ev h) hx]
theorem Do.typeAssert {xT aT:TypeId}{ok:Bool}{x:Operand}{v u:Value}(hx:ev E x=some v) (hr:∀ w,(Instr.typeAssert v xT aT ok).run X.P w = .ok u w):Does X E H (.typeAssert x xT aT ok) (Is u H) :=
 Does.pureOp rfl fun dst ty pos after g ρ w hρ => by simp [execOp,hρ _ _ hx,hr w]
theorem AtL.typeAssert {d:Nat}{xT aT:TypeId}{ok:Bool}{x:Operand}{v u:Value}(hg:Wd X ops E g) (hd:Nat.blt d X.n=true) (hx:ev E x=some v) (hr:∀ w,(Instr.typeAssert v xT aT ok).run X.P w = .ok u w) (hk:AtL X ops os k ((d,u)::E) ds H) :
  AtL X ops (⟨some d,.typeAssert x xT aT ok,ty,pos,after,g⟩::os) k E ds H:=AtL.ofIs (Do.typeAssert hx hr) hg hd hk
end panics
def afterDef:FrameMode→FrameMode
 | .panicking ({ recovered:=true,.. }::older) => match older.dropWhile (!·.goexit) with
  | [] => .returning
  | rest => .panicking rest
 | m => m
def DCalls (P:Program) (f:FuncId) (args:List Value) (w0:World) (base:Nat) (H:List Seg) (m:FrameMode) (R:FrameMode→List Seg→Prop):Prop :=
 ∀ (fr:Frame) (cs:List Frame) (w:World),fr.mode=m→Sep w0 base w H→∃ m' H' w',R m' H'∧Sep w0 base w' H'∧Steps P (lone (Frame.enter P f args.toArray .deferred) (fr::cs) w) (lone { fr with mode:=m' } cs w')
def LeftD (fr:Frame) (cs:List Frame) (w0:World) (base:Nat) (R:FrameMode→List Seg→Prop) (mch:Machine):Prop :=
 ∃ m' H' w',mch=lone { fr with mode:=m' } cs w'∧R m' H'∧Sep w0 base w' H'
theorem DCalls.of_walk {P:Program}{f:FuncId}{fn:Func}{c:Code}{n:Nat}{args:List Value}{w0:World}{base:Nat}{H:List Seg}{m:FrameMode}{R:FrameMode→List Seg→Prop}
  (hf:P.funcs[f]? = some fn) (hb:fn.body=some c) (hn:fn.ntmps=n) (hle:Nat.ble args.length n=true)
  (h:∀ fr cs,At ⟨P,⟨f,.deferred,none⟩,n,{ fr with mode:=m }::cs,LeftD fr cs w0 base R,w0,base⟩ [.code c] (argsEnv args 0) [] H):DCalls P f args w0 base H m R:=by
 intro fr cs w hm S
 subst hm
 have hle:=Nat.le_of_ble_eq_true hle
 have hA:Agree n (args.toArray++Array.replicate (n - args.length) undef) (argsEnv args 0):=by
  refine ⟨by simp; omega,fun t v hv => ?_⟩
  obtain ⟨_,h2⟩:=zeJ hv
  rw [Nat.sub_zero] at h2
  have hlt:=(List.getElem?_eq_some_iff.1 h2).1
  rw [Array.getD_eq_getD_getElem?,Array.getElem?_append_left (by simpa using hlt)]
  simp [h2]
 obtain ⟨m',hs,m1,H',w',rfl,h3,h4⟩:=h fr cs _ w hA S
 refine ⟨m1,H',w',h3,h4,?_⟩
 have henter:Frame.enter P f args.toArray .deferred=Ctx.fr ⟨f,.deferred,none⟩ (args.toArray++Array.replicate (n - args.length) undef) [] [.code c]:=by
  simp [Frame.enter,Ctx.fr,hf,hb,hn]
 rw [henter]
 exact hs
theorem Un.leftD {P:Program}{f:FuncId}{fn:Func}{n:Nat}{fr:Frame}{cs:List Frame}{w0:World}{base:Nat}{H:List Seg}{m:FrameMode}{R:FrameMode→List Seg→Prop}{E:Env}{vs:List Value}{rs:List ResultVar}
  (hf:P.funcs[f]? = some fn) (hrs:fn.results.toList=rs) (hv:ResP P w0 base H E rs vs) (hR:R (afterDef m) H):Un ⟨P,⟨f,.deferred,none⟩,n,{ fr with mode:=m }::cs,LeftD fr cs w0 base R,w0,base⟩ .returning E [] H:=by
 intro a w k ha S
 subst hrs
 have hres:=zc6 (P:=P) ha S hv
 refine .step (m':=lone { fr with mode:=afterDef m } cs w) (step_lone_go ?_) ⟨_,.refl P _,_,H,w,rfl,hR,S⟩
 simp only [Ctx.fr,stepG,unwind,hf,doReturn]
 simp only [Sem.runT_eq,hres,GStep.bare_after]
 cases m with
 | run => rfl
 | returning => rfl
 | panicking ch =>
  cases ch with
  | nil => rfl
  | cons x older =>
   obtain ⟨v,r,gx⟩:=x
   cases r with
   | false => rfl
   | true =>
    simp only [afterDef]
    split <;> simp_all
theorem Un.defer {X:Pt}{m:FrameMode}{E:Env}{ds:List Deferred}{H:List Seg}{f:FuncId}{args c:Array Value}{args' : List Value}{R:FrameMode→List Seg→Prop}(hb:Body X.P f) (hm:(match m with | .run => false | _ => true)=true) (ha' : args.toList++c.toList=args') (hc:DCalls X.P f args' X.w0 X.base H m R)
  (hk:∀ m' H',R m' H'→Un X m' E ds H'):Un X m E ({ target:=.fn (.func f) c,args }::ds) H:=by
 intro a w k ha S
 subst ha'
 obtain ⟨m',H',w',hR,S',hs⟩:=hc { X.c.fr a ds k with mode:=m } X.cs w rfl S
 have e:args++c=(args.toList++c.toList).toArray:=by
  apply Array.ext'
  simp
 refine .step (m':=lone (Frame.enter X.P f (args.toList++c.toList).toArray .deferred) ({ X.c.fr a ds k with mode:=m }::X.cs) w) (step_lone_go ?_) (.steps hs (hk m' H' hR a w' k ha S'))
 have hinv:(invoke (.fn (.func f) c) args).run X.P w = .ok (.enter f (args++c)) w:=by simp [invoke,zbt hb]
 rw [← e]
 cases m with
 | run => cases hm
 | returning =>
  simp only [stepG,unwind,Ctx.fr,callDeferred,Bool.and_false,Bool.false_eq_true,if_false,Sem.runT_eq,hinv,GStep.bare_after]
  rfl
 | panicking ch =>
  simp only [stepG,unwind,Ctx.fr,callDeferred,Bool.false_and,Bool.false_eq_true,if_false,Sem.runT_eq,hinv,GStep.bare_after]
  rfl
section recover
variable {P:Program}{f:FuncId}{n:Nat}{fr:Frame}{cs:List Frame}{G:Machine→Prop}{w0:World}{base:Nat}{k:List Item}{E:Env}{ds:List Deferred}{H:List Seg}{ops:Array Oper}{os:List Oper}
  {dst:Option Tmp}{ty:TypeId}{pos:String}{after:Array Edge}{ts:Array TypeId}
theorem AtL.recoverNone (hd:dstOk n dst=true) (hk:AtL ⟨P,⟨f,.deferred,none⟩,n,{ fr with mode:=.returning }::cs,G,w0,base⟩ ops os k (putE E dst .nilIface) ds H) :
  AtL ⟨P,⟨f,.deferred,none⟩,n,{ fr with mode:=.returning }::cs,G,w0,base⟩ ops (⟨dst,.call ⟨.builtin .recover,#[],ts⟩,ty,pos,after,none⟩::os) k E ds H:=by
 intro is hi a w ha S
 cases is with
 | nil => simp at hi
 | cons i is =>
  simp only [List.map_cons,List.cons.injEq] at hi
  obtain ⟨ho,hi⟩:=hi
  have hr:(execOp (evA a) ⟨dst,.call ⟨.builtin .recover,#[],ts⟩,ty,pos,after,none⟩).run P w = .ok .recover w:=by simp [execOp,resolve,invoke,builtin]
  refine .step (step_lone_go ?_) (hk is hi _ _ (ha.put hd .nilIface) S)
  rw [za3 ho (by simp [Region.wanted]) (.inl rfl),← zax ho]
  simp [stepG.apply,hr,Ctx.fr,tryRecover]
theorem AtL.recoverSome {v:Value}{older:List PanicEntry}(hd:dstOk n dst=true) (hk:AtL ⟨P,⟨f,.deferred,none⟩,n,{ fr with mode:=.panicking ({ v,recovered:=true }::older) }::cs,G,w0,base⟩ ops os k (putE E dst v) ds H) :
  AtL ⟨P,⟨f,.deferred,none⟩,n,{ fr with mode:=.panicking ({ v,recovered:=false }::older) }::cs,G,w0,base⟩ ops (⟨dst,.call ⟨.builtin .recover,#[],ts⟩,ty,pos,after,none⟩::os) k E ds H:=by
 intro is hi a w ha S
 cases is with
 | nil => simp at hi
 | cons i is =>
  simp only [List.map_cons,List.cons.injEq] at hi
  obtain ⟨ho,hi⟩:=hi
  have hr:(execOp (evA a) ⟨dst,.call ⟨.builtin .recover,#[],ts⟩,ty,pos,after,none⟩).run P w = .ok .recover w:=by simp [execOp,resolve,invoke,builtin]
  refine .step (step_lone_go ?_) (hk is hi _ _ (ha.put hd v) S)
  rw [za3 ho (by simp [Region.wanted]) (.inl rfl),← zax ho]
  simp [stepG.apply,hr,Ctx.fr,tryRecover]
end recover
theorem perm_flat {H H' : List Seg}(h:H.Perm H'):H.flatten.Perm H'.flatten:=by
 induction h with
 | nil => exact .refl _
 | cons s _ ih => exact List.Perm.append_left s ih
 | swap a b l =>
  simp only [List.flatten_cons,← List.append_assoc]
  exact List.Perm.append_right _ List.perm_append_comm
 | trans _ _ ih1 ih2 => exact ih1.trans ih2
theorem Sep.perm {w0:World}{base:Nat}{w:World}{H H' : List Seg}(S:Sep w0 base w H) (h:H.Perm H'):Sep w0 base w H' :=
 ⟨S.below,S.le,fun p hp => S.mem p ((perm_flat h).mem_iff.2 hp),((perm_flat h).map _).nodup_iff.1 S.nodup⟩
theorem perm1 {α:Type}(a:α) (X T:List α):(a::(X++T)).Perm (X++(a::T)):=List.perm_middle.symm
def YCalls (P:Program) (l:Nat) (args:List Value) (w0:World) (base:Nat) (H:List Seg) (R:Value→List Seg→Prop):Prop :=
 ∀ w,Sep w0 base w H→∃ f tmps assign body,(Instr.yield l args.toArray).run P w = .ok (.round l f tmps assign body) w ∧
  ∀ c cs,∃ v H' w',R v H'∧Sep w0 base w' H'∧Steps P (lone (Frame.round l f tmps assign body .normal) (c::cs) w) (lone (Frame.finish c v) cs w')
theorem YCalls.mono {P:Program}{l:Nat}{args:List Value}{w0:World}{base:Nat}{H:List Seg}{R R' : Value→List Seg→Prop}(h:YCalls P l args w0 base H R) (hr:∀ v H',R v H'→R' v H'):YCalls P l args w0 base H R':=by
 intro w S
 obtain ⟨f,tmps,assign,body,h1,h2⟩:=h w S
 refine ⟨f,tmps,assign,body,h1,fun c cs => ?_⟩
 obtain ⟨v,H',w',hR,S',hs⟩:=h2 c cs
 exact ⟨v,H',w',hr _ _ hR,S',hs⟩
def LeftY (c:Frame) (cs:List Frame) (w0:World) (base:Nat) (R:Value→List Seg→Prop) (m:Machine):Prop :=
 ∃ v H' w',m=lone (Frame.finish c v) cs w'∧R v H'∧Sep w0 base w' H'
def putsE (E:Env):List Tmp→List Value→Env
 | t::ts,v::vs => putsE ((t,v)::E) ts vs
 | _,_ => E
theorem zaM {P:Program}{w:World}{l:Nat}{L:Loop}(h:w.heap[l]? = some (.loop L)):(Instr.getLoop l).run P w = .ok L w:=by
 simp [Instr.getLoop,getObj,Sem.run,h]
def isCellsO:Obj→Bool
 | .cells _ _ _ => true
 | _ => false
theorem zaH {P:Program}{w:World}{l:Nat}{o o' : Obj}(h:w.heap[l]? = some o) (hc:isCellsO o=false):(setObj l o').run P w = .ok () { w with heap:=w.heap.setIfInBounds l o' }:=by
 cases o <;> first | (cases hc; done) | simp [setObj,Sem.run,h]
theorem Sep.setObj {w0:World}{base:Nat}{w:World}{H:List Seg}(S:Sep w0 base w H) {i j:Nat}{s:Seg}{b:Nat}{o:Obj}(hi:H[i]? = some s) (hj:s[j]? = some (b,o)) (o' : Obj) :
  Sep w0 base { w with heap:=w.heap.setIfInBounds b o' } (H.set i (s.set j (b,o'))):=by
 have hb:=(S.at_ hi hj).1
 have hlt:=(Array.getElem?_eq_some_iff.1 hb).1
 refine S.write hi hj o' rfl rfl rfl (by simp) ?_ (fun k hk => ?_)
 ·simp [hlt]
 ·simp [Array.getElem?_setIfInBounds,Ne.symm hk]
theorem YCalls.of_walk {P:Program}{l n i j:Nat}{args:List Value}{w0:World}{base:Nat}{H:List Seg}{R:Value→List Seg→Prop}{s:Seg}{L:Loop}{E:Env}{ps:List Tmp}
  (hi:H[i]? = some s) (hj:s[j]? = some (l,.loop L)) (hA:Agree n L.tmps E) (hp:L.params.toList=ps) (hlen:args.length=ps.length) (hps:ps.all (fun t => Nat.blt t n)=true)
  (h:∀ c cs,At ⟨P,⟨L.fn,.normal,some l⟩,n,c::cs,LeftY c cs w0 base R,w0,base⟩ [.code L.assign,.beginRound,.code L.body] (putsE E ps args) [] H):YCalls P l args w0 base H R:=by
 intro w S
 have hb:=(S.at_ hi hj).1
 have hsz:args.toArray.size=L.params.size:=by
  have:L.params.size=ps.length:=by rw [← hp]; simp
  simp [this,hlen]
 refine ⟨L.fn,(L.params.zip args.toArray).foldl (fun tmps (t,a) => tmps.setIfInBounds t a) L.tmps,L.assign,L.body,?_,fun c cs => ?_⟩
 ·unfold Instr.yield
  simp only [Sem.run_bind,zaM hb,Result.andThen_ok]
  rw [if_neg (by simpa using hsz)]
  rfl
 ·have key:∀ (ps:List Tmp) (vs:List Value) (a:Array Value) (E:Env),ps.all (fun t => Nat.blt t n)=true→Agree n a E→Agree n ((ps.zip vs).foldl (fun tmps p => tmps.setIfInBounds p.1 p.2) a) (putsE E ps vs):=by
   intro ps
   induction ps with
   | nil => intro vs a E _ ha; exact ha
   | cons t ts ih =>
    intro vs a E hps ha
    cases vs with
    | nil => exact ha
    | cons v vs =>
     simp only [List.all_cons,Bool.and_eq_true] at hps
     exact ih vs _ _ hps.2 (ha.put (d:=some t) hps.1 v)
  have hA' : Agree n ((L.params.zip args.toArray).foldl (fun tmps (t,a) => tmps.setIfInBounds t a) L.tmps) (putsE E ps args):=by
   have:=key ps args L.tmps E hps hA
   rw [← hp] at this ⊢
   rw [← Array.foldl_toList,Array.toList_zip]
   exact this
  obtain ⟨m',hs,v,H',w',rfl,hR,S'⟩:=h c cs _ w hA' S
  exact ⟨v,H',w',hR,S',hs⟩
section
variable {X:Pt}{k:List Item}{E:Env}{ds:List Deferred}{H:List Seg}{ops:Array Oper}{os:List Oper}
theorem AtL.perm {H' : List Seg}(hp:H.Perm H') (h:AtL X ops os k E ds H'):AtL X ops os k E ds H:=fun is hi a w ha S => h is hi a w ha (S.perm hp)
theorem At.perm {H' : List Seg}(hp:H.Perm H') (h:At X k E ds H'):At X k E ds H:=fun a w ha S => h a w ha (S.perm hp)
theorem Do.yield {l:Nat}{x:Operand}{xs:Array Operand}{ts:Array TypeId}{args:List Value}{R:Value→List Seg→Prop}(hv:ev E x=some (.func (.yield l) #[] #[])) (hx:evs E xs.toList=some args) (hc:YCalls X.P l args X.w0 X.base H R):Does X E H (.call ⟨.value x,xs,ts⟩) R:=by
 intro dst ty pos after g ops i is k ds a w ho hw ha S
 obtain ⟨f,tmps,assign,body,hy,hr⟩:=hc w S
 obtain ⟨v,H',w',hR,S',hs⟩:=hr (X.c.fr a ds (.inRegion ops (i::is)::k)) X.cs
 refine ⟨v,H',w',hR,S',.head (m₁:=lone (Frame.round l f tmps assign body .normal) (X.c.fr a ds (.inRegion ops (i::is)::k)::X.cs) w) (step_lone_go ?_) ?_⟩
 ·rw [za3 ho hw (.inl rfl)]
  have hrun:(execOp (evA a) ⟨dst,.call ⟨.value x,xs,ts⟩,ty,pos,after,g⟩).run X.P w = .ok (.round l f tmps assign body) w:=by
   simp [execOp,resolve,ha _ _ hv,Deferred.ofValue,zbb ha hx,invoke,hy]
  simp [stepG.apply,hrun,Ctx.fr]
 ·rw [zax ho] at hs
  exact hs
theorem AtL.yield {dst:Option Tmp}{ty:TypeId}{pos:String}{after:Array Edge}{g:Option (Nat×Bool)}{l:Nat}{x:Operand}{xs:Array Operand}{ts:Array TypeId}{args:List Value}{R:Value→List Seg→Prop}(hg:Wd X ops E g) (hd:dstOk X.n dst=true) (hv:ev E x=some (.func (.yield l) #[] #[])) (hx:evs E xs.toList=some args) (hc:YCalls X.P l args X.w0 X.base H R)
  (hk:∀ v H',R v H'→AtL X ops os k (putE E dst v) ds H'):AtL X ops (⟨dst,.call ⟨.value x,xs,ts⟩,ty,pos,after,g⟩::os) k E ds H:=AtL.of (Do.yield hv hx hc) hg hd hk
theorem At.beginRound {l i j:Nat}{s:Seg}{L:Loop}{H' : List Seg}(hr:X.c.round=some l) (hi:H[i]? = some s) (hj:s[j]? = some (l,.loop L)) (hs:L.state = .ready) (hH:H.set i (s.set j (l,.loop { L with state:=.busy }))=H') (h:At X k E ds H'):At X (.beginRound::k) E ds H:=by
 intro a w ha S
 have hb:=(S.at_ hi hj).1
 have hrun:(Instr.beginRound l).run X.P w = .ok () { w with heap:=w.heap.setIfInBounds l (.loop { L with state:=.busy }) }:=by
  unfold Instr.beginRound
  simp only [Sem.run_bind,zaM hb,Result.andThen_ok,zaH hb rfl,hs,Sem.run_pure]
 refine .step (m':=lone (X.c.fr a ds k) X.cs { w with heap:=w.heap.setIfInBounds l (.loop { L with state:=.busy }) }) (step_lone_go ?_) (h a _ ha (hH ▸ S.setObj hi hj _))
 have hr2:(do (Instr.beginRound l); pure .skip:Sem Next).run X.P w = .ok .skip { w with heap:=w.heap.setIfInBounds l (.loop { L with state:=.busy }) }:=by
  simp only [Sem.run_bind,hrun,Result.andThen_ok,Sem.run_pure]
 simp only [stepG,stepG.exec,Ctx.fr,hr,Option.elim_some,stepG.apply,Sem.runT_eq,if_true,hr2,GStep.bare_after,Frame.finish]
 rfl
section ends
variable {P:Program}{f:FuncId}{n l i j:Nat}{c:Frame}{cs:List Frame}{w0:World}{base:Nat}{R:Value→List Seg→Prop}{s:Seg}{L:Loop}{H' : List Seg}
theorem zcH {w:World}(hb:w.heap[l]? = some (.loop L)) (jump:Option Code):(Instr.endRound l jump).run P w = .ok (.bool jump.isNone) { w with heap:=w.heap.setIfInBounds l (.loop { L with state:=if jump.isNone then .ready else .done,pending:=jump }) }:=by
 unfold Instr.endRound
 simp only [Sem.run_bind,zaM hb,Result.andThen_ok,zaH hb rfl,Sem.run_pure]
theorem At.roundEnd (hi:H[i]? = some s) (hj:s[j]? = some (l,.loop L)) (hH:H.set i (s.set j (l,.loop { L with state:=.ready,pending:=none }))=H') (hR:R (.bool true) H') :
  At ⟨P,⟨f,.normal,some l⟩,n,c::cs,LeftY c cs w0 base R,w0,base⟩ [] E ds H:=by
 intro a w ha S
 have hb:=(S.at_ hi hj).1
 have hrun:=zcH (P:=P) hb none
 have S':=hH ▸ S.setObj hi hj (.loop { L with state:=.ready,pending:=none })
 refine .step (m':=lone (c.finish (.bool true)) cs { w with heap:=w.heap.setIfInBounds l (.loop { L with state:=.ready,pending:=none }) }) (step_lone_go ?_) ⟨_,.refl P _,_,H',_,rfl,hR,S'⟩
 simp only [stepG,stepG.exec,Ctx.fr,Sem.runT_eq,hrun,GStep.bare_after,doReturn]
 rfl
theorem At.roundRet (hi:H[i]? = some s) (hj:s[j]? = some (l,.loop L)) (hH:H.set i (s.set j (l,.loop { L with state:=.done,pending:=some .ret }))=H') (hR:R (.bool false) H') :
  At ⟨P,⟨f,.normal,some l⟩,n,c::cs,LeftY c cs w0 base R,w0,base⟩ (.code .ret::k) E ds H:=by
 intro a w ha S
 have hb:=(S.at_ hi hj).1
 have hrun:=zcH (P:=P) hb (some .ret)
 have S':=hH ▸ S.setObj hi hj (.loop { L with state:=.done,pending:=some .ret })
 refine .step (m':=lone (c.finish (.bool false)) cs { w with heap:=w.heap.setIfInBounds l (.loop { L with state:=.done,pending:=some .ret }) }) (step_lone_go ?_) ⟨_,.refl P _,_,H',_,rfl,hR,S'⟩
 simp only [stepG,stepG.exec,Ctx.fr,Sem.runT_eq,hrun,GStep.bare_after,doReturn]
 rfl
end ends
theorem At.rangeFunc {f:Operand}{params:Array Tmp}{assign body:Code}{gf:FuncId}{u c:Array Value}{R:Array Value→Nat→Nat→Value→List Seg→Prop}(hr:X.c.round=none) (hb:Body X.P gf) (hf:ev E f=some (.func (.func gf) u c))
  (hc:∀ (a:Array Value) (l r:Nat),Agree X.n a E→SCalls X.P gf (u.toList++[.func (.yield l) #[] #[]]++c.toList) X.w0 X.base ([(l,.loop ⟨.ready,none,X.c.fn,a,params,assign,body,r⟩)]::[(r,.deferred (some []))]::H) (R a l r))
  (hk:∀ a l r v H1,Agree X.n a E→R a l r v H1→∃ i j s L,∃ H' : List Seg,H1[i]? = some s∧s[j]? = some (l,.loop L)∧L.state≠.busy∧H1.set i (s.set j (l,.loop { L with state:=.exhausted }))=H' ∧
   At X ((L.pending.map Item.code).toList++k) E ({ target:=.collected r,args:=#[] }::ds) H'):At X (.code (.rangeFunc f params assign body)::k) E ds H:=by
 intro a w ha S
 have S1:=(S.alloc (.deferred (some []))).alloc (.loop ⟨.ready,none,X.c.fn,a,params,assign,body,w.heap.size⟩)
 have hsz:(w.alloc (.deferred (some []))).heap.size=w.heap.size + 1:=by simp
 have henter:(Instr.enterLoop X.c.fn a params assign body none).run X.P w = .ok (w.heap.size + 1,[{ target:=.collected w.heap.size,args:=#[] }]) ((w.alloc (.deferred (some []))).alloc (.loop ⟨.ready,none,X.c.fn,a,params,assign,body,w.heap.size⟩)):=by
  unfold Instr.enterLoop
  simp only [Sem.run_bind,run_newObj,Result.andThen_ok,Sem.run_pure]
  show Result.ok ((w.heap.push _).size,_) _=_
  rw [Array.size_push]
  rfl
 rw [hsz] at S1
 have hcall:=hc a (w.heap.size + 1) w.heap.size ha _ S1
 obtain ⟨e,w',fr,⟨v,H1,rfl,hR,S'⟩,hcomes,_,hleave⟩:=hcall (X.c.fr a ({ target:=.collected w.heap.size,args:=#[] }::ds) (.inRangeFunc (w.heap.size + 1)::k)::X.cs)
 obtain ⟨i,j,s,L,H',hi,hj,hns,hH,hat⟩:=hk a _ _ v H1 ha hR
 have hbk:=(S'.at_ hi hj).1
 obtain ⟨Y,hY⟩:∃ Y:List Value,Y=[Value.func (Fn.yield (w.heap.size + 1)) #[] #[]]:=⟨_,rfl⟩
 have e1:(u++Y.toArray++c)=(u.toList++Y++c.toList).toArray:=by
  apply Array.ext'
  simp
 rw [← hY] at hcomes
 refine .step (m':=lone (Frame.enter X.P gf (u.toList++Y++c.toList).toArray .normal) (X.c.fr a ({ target:=.collected w.heap.size,args:=#[] }::ds) (.inRangeFunc (w.heap.size + 1)::k)::X.cs) ((w.alloc (.deferred (some []))).alloc (.loop ⟨.ready,none,X.c.fn,a,params,assign,body,w.heap.size⟩))) (step_lone_go ?_) (.steps hcomes (.step (step_leave_returned hleave) ?_))
 ·have hfe:=zd7 (c:=X.c) (a:=a) (ds:={ target:=.collected w.heap.size,args:=#[] }::ds) (k:=.inRangeFunc (w.heap.size + 1)::k)
  have hfv:=ha.ev hf
  simp only [Ctx.fr] at hfe
  rw [hr] at hfe
  simp only [stepG,stepG.exec,Ctx.fr,hr,Sem.runT_eq,henter,GStep.bare_after,List.singleton_append,hfe]
  have hrun:∀ (y:Value) (w:World),(do let d ← resolve (evA a) { callee:=.value f,args:=#[.const y],argTypes:=#[] } 0; invoke d.target d.args:Sem Next).run X.P w = .ok (.enter gf (u++#[y]++c)) w:=by
   intro y w
   have hcy:evA a (.const y)=y:=rfl
   simp [resolve,hfv,Deferred.ofValue,invoke,zbt hb,hcy]
  simp only [stepG.apply,Sem.runT_eq,if_true,hrun,GStep.bare_after]
  rw [← e1,hY]
  rfl
 ·have hend:(Instr.endLoop (w.heap.size + 1)).run X.P w' = .ok L.pending { w' with heap:=w'.heap.setIfInBounds (w.heap.size + 1) (.loop { L with state:=.exhausted }) }:=by
   have hnb:(L.state == LoopState.busy)=false:=by simpa using hns
   unfold Instr.endLoop
   simp only [Sem.run_bind,zaM hbk,Result.andThen_ok,hnb,Bool.false_eq_true,if_false,zaH hbk rfl,Sem.run_pure]
  refine .step (m':=lone (X.c.fr a ({ target:=.collected w.heap.size,args:=#[] }::ds) ((L.pending.map Item.code).toList++k)) X.cs { w' with heap:=w'.heap.setIfInBounds (w.heap.size + 1) (.loop { L with state:=.exhausted }) }) (step_lone_go ?_) (hat a _ ha (hH ▸ S'.setObj hi hj _))
  have hfin:(X.c.fr a ({ target:=.collected w.heap.size,args:=#[] }::ds) (.inRangeFunc (w.heap.size + 1)::k)).finish v=X.c.fr a ({ target:=.collected w.heap.size,args:=#[] }::ds) (.endRangeFunc (w.heap.size + 1)::k):=rfl
  rw [hfin]
  simp only [stepG,stepG.exec,Ctx.fr,Sem.runT_eq,hend,GStep.bare_after]
  rfl
theorem Un.collected {m:FrameMode}{r i j:Nat}{ds0:List Deferred}{s:Seg}{H' : List Seg}{args:Array Value}(hm:(match m with | .run => false | _ => true)=true) (hi:H[i]? = some s) (hj:s[j]? = some (r,.deferred (some ds0))) (hH:H.set i (s.set j (r,.deferred none))=H') (h:Un X m E (ds0++ds) H') :
  Un X m E ({ target:=.collected r,args }::ds) H:=by
 intro a w k ha S
 have hb:=(S.at_ hi hj).1
 have hrun:(Instr.takeDeferred r).run X.P w = .ok ds0 { w with heap:=w.heap.setIfInBounds r (.deferred none) }:=by
  unfold Instr.takeDeferred
  have h1:(getObj r).run X.P w = .ok (.deferred (some ds0)) w:=by simp [getObj,Sem.run,hb]
  simp only [Sem.run_bind,h1,Result.andThen_ok,zaH hb rfl,Sem.run_pure]
 refine .step (m':=lone { X.c.fr a (ds0++ds) k with mode:=m } X.cs { w with heap:=w.heap.setIfInBounds r (.deferred none) }) (step_lone_go ?_) (h a _ k ha (hH ▸ S.setObj hi hj _))
 cases m with
 | run => cases hm
 | returning => simp only [stepG,unwind,Ctx.fr,Sem.runT_eq,hrun,GStep.bare_after]; rfl
 | panicking ch => simp only [stepG,unwind,Ctx.fr,Sem.runT_eq,hrun,GStep.bare_after]; rfl
end
theorem shr_eq (a b:Int) (c:Nat) (hb:b=(c:Int)) (hc:c≤63) (d:Int) (hd:(2:Int) ^ c=d):a.fdiv (2 ^ (min b.toNat IntKind.i64.bits))=a / d:=by
 subst hb; subst hd
 have h1:min ((c:Int)).toNat IntKind.i64.bits=c:=by
  show min ((c:Int)).toNat 64=c
  simp; omega
 rw [h1,Int.fdiv_eq_ediv_of_nonneg]
 exact Int.le_of_lt (Int.pow_pos (by omega))
theorem shl_eq (a b:Int) (c:Nat) (hb:b=(c:Int)) (hc:c≤63) (d:Int) (hd:(2:Int) ^ c=d) (h1:-9223372036854775808≤a * d) (h2:a * d≤9223372036854775807):IntKind.i64.wrap (a * 2 ^ (min b.toNat IntKind.i64.bits))=a * d:=by
 subst hb; subst hd
 have e:min ((c:Int)).toNat IntKind.i64.bits=c:=by
  show min ((c:Int)).toNat 64=c
  simp; omega
 rw [e]
 exact w64 h1 h2
theorem rem_eq {a b:Int}(ha:0≤a):a.tmod b=a % b:=Int.tmod_eq_emod_of_nonneg ha
theorem zc9 (a:Int):(UInt8.ofInt a).toNat=(a % 256).toNat:=by
 have h1:=Int.emod_nonneg a (show (256:Int)≠0 by decide)
 have h2:=Int.emod_lt_of_pos a (show (0:Int) < 256 by decide)
 show (UInt8.ofNat (a % 2 ^ 8).toNat).toNat=_
 have e:(a % 2 ^ 8)=a % 256:=rfl
 rw [e,UInt8.toNat_ofNat_of_lt' (by show (a % 256).toNat < 256; omega)]
theorem zee (a:Int):IntKind.u8.wrap a=((UInt8.ofInt a).toNat:Int):=by
 rw [zc9]
 have h1:=Int.emod_nonneg a (show (256:Int)≠0 by decide)
 show a % (2 ^ 8:Int)=_
 have e:(a % 2 ^ 8)=a % 256:=rfl
 omega
theorem zes (n:Nat):UInt8.ofInt (n:Int)=UInt8.ofNat n:=by
 apply UInt8.toNat_inj.1
 rw [zc9]
 simp
 omega
section
variable {X:Pt}{k:List Item}{E:Env}{ds:List Deferred}{H:List Seg}{ops:Array Oper}{os:List Oper}
  {d:Nat}{ty:TypeId}{pos:String}{after:Array Edge}{g:Option (Nat×Bool)}
theorem At.unroll {b:Code}(h:At X (.code b::.inLoop b::k) E ds H):At X (.code (.loop b)::k) E ds H:=fun a w ha S => .step go_loop (h a w ha S)
theorem At.again {b:Code}(h:At X (.code b::.inLoop b::k) E ds H):At X (.inLoop b::k) E ds H:=fun a w ha S => .step zeB (h a w ha S)
theorem Do.indexB {t e sz b o r:Nat}{x ix:Operand}{n C:Nat}{kk:IntKind}{i:Int}(j:Nat) (hu:X.P.underlying t=some (.slice e)) (hs:sizeN X.P e sz=true) (hx:ev E x=some (.slice (some ⟨b,o,none⟩) n C)) (hi:ev E ix=some (.int kk i)) (hij:i=(j:Int)) (hj:Nat.blt j n=true) (hr:o + j * sz=r) :
  Does X E H (.indexAddr t x ix) (Is (.pointer (some ⟨b,r,none⟩)) H):=by
 have:=Do.indexAddr (X:=X) (E:=E) (H:=H) j hu hs hx hi hij (zbS hj) (by simp)
 rw [show eaddr (some ⟨b,o,none⟩) (j * sz)=⟨b,r,none⟩ from by rw [← hr]; exact zai b o (j * sz)] at this
 exact this
theorem AtL.indexB {t e sz b o r:Nat}{x ix:Operand}{n C:Nat}{kk:IntKind}{i:Int}(j:Nat) (hu:X.P.underlying t=some (.slice e)) (hs:sizeN X.P e sz=true) (hg:Wd X ops E g) (hd:Nat.blt d X.n=true) (hx:ev E x=some (.slice (some ⟨b,o,none⟩) n C)) (hi:ev E ix=some (.int kk i)) (hij:i=(j:Int)) (hj:Nat.blt j n=true) (hr:o + j * sz=r)
  (hk:AtL X ops os k ((d,.pointer (some ⟨b,r,none⟩))::E) ds H):AtL X ops (⟨some d,.indexAddr t x ix,ty,pos,after,g⟩::os) k E ds H:=AtL.ofIs (Do.indexB j hu hs hx hi hij hj hr) hg hd hk
end
theorem SCalls.pick {P:Program}{f:FuncId}{args:List Value}{w0:World}{base:Nat}{H H' : List Seg}{R:Value→List Seg→Prop}(is:List Nat) (m:Nat) (hok:pickOk is m=true) (hH:pickSegs H is m=H') (h:SCalls P f args w0 base H' R):SCalls P f args w0 base H R :=
 fun w S => h w (hH ▸ S.pick is m hok)
theorem SCalls.perm {P:Program}{f:FuncId}{args:List Value}{w0:World}{base:Nat}{H H' : List Seg}{R:Value→List Seg→Prop}(hp:H.Perm H') (h:SCalls P f args w0 base H' R):SCalls P f args w0 base H R :=
 fun w S => h w (S.perm hp)
theorem YCalls.pick {P:Program}{l:Nat}{args:List Value}{w0:World}{base:Nat}{H H' : List Seg}{R:Value→List Seg→Prop}(is:List Nat) (m:Nat) (hok:pickOk is m=true) (hH:pickSegs H is m=H') (h:YCalls P l args w0 base H' R):YCalls P l args w0 base H R :=
 fun w S => h w (hH ▸ S.pick is m hok)
theorem YCalls.perm {P:Program}{l:Nat}{args:List Value}{w0:World}{base:Nat}{H H' : List Seg}{R:Value→List Seg→Prop}(hp:H.Perm H') (h:YCalls P l args w0 base H' R):YCalls P l args w0 base H R :=
 fun w S => h w (S.perm hp)
theorem SCalls.permR {P:Program}{f:FuncId}{args:List Value}{w0:World}{base:Nat}{H:List Seg}{R R' : Value→List Seg→Prop}(h:SCalls P f args w0 base H R) (hr:∀ v H1,R v H1→∃ H2,H1.Perm H2∧R' v H2):SCalls P f args w0 base H R' :=
 fun w S => (h w S).mono fun _ _ ⟨v,H1,he,hR,hS⟩ => let ⟨H2,hp,hR2⟩:=hr v H1 hR; ⟨v,H2,he,hR2,hS.perm hp⟩
theorem YCalls.permR {P:Program}{l:Nat}{args:List Value}{w0:World}{base:Nat}{H:List Seg}{R R' : Value→List Seg→Prop}(h:YCalls P l args w0 base H R) (hr:∀ v H1,R v H1→∃ H2,H1.Perm H2∧R' v H2):YCalls P l args w0 base H R':=by
 intro w S
 obtain ⟨f,tmps,assign,body,h1,h2⟩:=h w S
 refine ⟨f,tmps,assign,body,h1,fun c cs => ?_⟩
 obtain ⟨v,H',w',hR,S',hs⟩:=h2 c cs
 obtain ⟨H2,hp,hR2⟩:=hr v H' hR
 exact ⟨v,H2,w',hR2,S'.perm hp,hs⟩
structure IsLoop (n:Nat) (f:FuncId) (E:Env) (params:Array Tmp) (assign body:Code) (L:Loop):Prop where
  fn:L.fn=f
  agree:Agree n L.tmps E
  params:L.params=params
  assign:L.assign=assign
  body:L.body=body
  state:L.state = .ready
  pending:L.pending=none
def busyL (L:Loop):Loop:={ L with state:=.busy }
def leftL (L:Loop) (c:Code):Loop:={ L with state:=.done,pending:=some c }
def overL (L:Loop):Loop:={ L with state:=.exhausted }
theorem ready_busy {L:Loop}(h1:L.state = .ready) (h2:L.pending=none):{ busyL L with state:=.ready,pending:=none }=L:=by
 cases L; simp_all [busyL]
section
variable {X:Pt}{k:List Item}{E:Env}{ds:List Deferred}{H:List Seg}{ops:Array Oper}{os:List Oper}
theorem At.rangeF {f:Operand}{params:Array Tmp}{assign body:Code}{gf:FuncId}{u c:Array Value}{args:List Value}{R:Loop→Nat→Nat→Value→List Seg→Prop}(hr:X.c.round=none) (hb:Body X.P gf) (hf:ev E f=some (.func (.func gf) u c))
  (ha:∀ l:Nat,u.toList++[.func (.yield l) #[] #[]]++c.toList = .func (.yield l) #[] #[]::args)
  (hc:∀ (L:Loop) (l r:Nat),IsLoop X.n X.c.fn E params assign body L→SCalls X.P gf (.func (.yield l) #[] #[]::args) X.w0 X.base ([(l,.loop L)]::[(r,.deferred (some []))]::H) (R L l r))
  (hk:∀ (L:Loop) (l r:Nat) (v:Value) (H1:List Seg),IsLoop X.n X.c.fn E params assign body L→R L l r v H1→∃ i j s L',∃ H' : List Seg,H1[i]? = some s∧s[j]? = some (l,.loop L')∧L'.state≠.busy∧H1.set i (s.set j (l,.loop (overL L')))=H' ∧
   At X ((L'.pending.map Item.code).toList++k) E ({ target:=.collected r,args:=#[] }::ds) H'):At X (.code (.rangeFunc f params assign body)::k) E ds H :=
 At.rangeFunc (R:=fun a l r => R ⟨.ready,none,X.c.fn,a,params,assign,body,r⟩ l r) hr hb hf
  (fun a l r hA => ha l ▸ hc _ l r ⟨rfl,hA,rfl,rfl,rfl,rfl,rfl⟩)
  (fun a l r v H1 hA hR => hk _ l r v H1 ⟨rfl,hA,rfl,rfl,rfl,rfl,rfl⟩ hR)
end
theorem YCalls.walkL {P:Program}{l n i j:Nat}{f:FuncId}{args:List Value}{w0:World}{base:Nat}{H:List Seg}{R:Value→List Seg→Prop}{s:Seg}{L:Loop}{E:Env}{params:Array Tmp}{assign body:Code}{ps:List Tmp}
  (hL:IsLoop n f E params assign body L) (hi:H[i]? = some s) (hj:s[j]? = some (l,.loop L)) (hp:params.toList=ps) (hlen:args.length=ps.length) (hps:ps.all (fun t => Nat.blt t n)=true)
  (h:∀ c cs,At ⟨P,⟨f,.normal,some l⟩,n,c::cs,LeftY c cs w0 base R,w0,base⟩ [.code assign,.beginRound,.code body] (putsE E ps args) [] H):YCalls P l args w0 base H R:=by
 have h1:=hL.fn
 have h2:=hL.assign
 have h3:=hL.body
 have h4:=hL.params
 refine YCalls.of_walk hi hj hL.agree (h4 ▸ hp) hlen hps fun c cs => ?_
 rw [h1,h2,h3]
 exact h c cs
theorem At.beginL {X:Pt}{k:List Item}{E E0:Env}{ds:List Deferred}{H:List Seg}{n:Nat}{f:FuncId}{params:Array Tmp}{assign body:Code}{l:Nat}(i j:Nat) {s:Seg}{L:Loop}{H' : List Seg}(hL:IsLoop n f E0 params assign body L) (hr:X.c.round=some l) (hi:H[i]? = some s) (hj:s[j]? = some (l,.loop L)) (hH:H.set i (s.set j (l,.loop (busyL L)))=H') (h:At X k E ds H'):At X (.beginRound::k) E ds H :=
 At.beginRound hr hi hj hL.state hH h
section ends
variable {P:Program}{f f0:FuncId}{n n0 l:Nat}{c:Frame}{cs:List Frame}{w0:World}{base:Nat}{R:Value→List Seg→Prop}{s:Seg}{L:Loop}{H H' : List Seg}{E E0:Env}{params:Array Tmp}{assign body:Code}{k:List Item}{ds:List Deferred}
theorem At.roundEndL (i j:Nat) (hL:IsLoop n0 f0 E0 params assign body L) (hi:H[i]? = some s) (hj:s[j]? = some (l,.loop (busyL L))) (hH:H.set i (s.set j (l,.loop L))=H') (hR:R (.bool true) H') :
  At ⟨P,⟨f,.normal,some l⟩,n,c::cs,LeftY c cs w0 base R,w0,base⟩ [] E ds H :=
 At.roundEnd hi hj (by rw [ready_busy hL.state hL.pending]; exact hH) hR
theorem At.roundRetL (i j:Nat) (hi:H[i]? = some s) (hj:s[j]? = some (l,.loop (busyL L))) (hH:H.set i (s.set j (l,.loop (leftL L .ret)))=H') (hR:R (.bool false) H') :
  At ⟨P,⟨f,.normal,some l⟩,n,c::cs,LeftY c cs w0 base R,w0,base⟩ (.code .ret::k) E ds H :=
 At.roundRet hi hj hH hR
end ends
theorem loop_ready {n:Nat}{f:FuncId}{E:Env}{params:Array Tmp}{assign body:Code}{L:Loop}(h:IsLoop n f E params assign body L):L.state≠.busy:=by rw [h.state]; decide
theorem loop_left {L:Loop}{c:Code}:(leftL L c).state≠.busy:=by simp [leftL]
theorem loop_dry {n:Nat}{f:FuncId}{E:Env}{params:Array Tmp}{assign body:Code}{L:Loop}(h:IsLoop n f E params assign body L) (k:List Item):(L.pending.map Item.code).toList++k=k:=by rw [h.pending]; rfl
theorem zdA (n:Nat) (h:n < 2 ^ 63):(BitVec.ofInt 64 (n:Int)).toNat=n:=by
 rw [BitVec.toNat_ofInt]
 omega
theorem or_add {a b:Int}(k:Nat) (q r:Nat) (ha:a=(q:Int) * 2 ^ k) (hb:b=(r:Int)) (hr:r < 2 ^ k) (hm:(q * 2 ^ k + r:Nat) < 2 ^ 63):IntKind.i64.wrap ((BitVec.ofInt IntKind.i64.bits a ||| BitVec.ofInt IntKind.i64.bits b).toNat:Int)=a + b:=by
 have e:a=((q * 2 ^ k:Nat):Int):=by rw [ha]; push_cast; rfl
 subst hb
 rw [e]
 show IntKind.i64.wrap ((BitVec.ofInt 64 _ ||| BitVec.ofInt 64 _).toNat:Int)=_
 rw [BitVec.toNat_or,zdA _ (by omega),zdA _ (by omega)]
 have h:=Nat.shiftLeft_add_eq_or_of_lt hr q
 rw [Nat.shiftLeft_eq] at h
 rw [← h]
 rw [w64 (by omega) (by omega)]
 push_cast
 rfl
theorem u8_le (x:UInt8):x.toNat≤255:=by have:=x.toNat_lt; omega
theorem zbK (x:UInt8):IntKind.i64.wrap (x.toNat:Int)=(x.toNat:Int):=by have:=u8_le x; exact w64 (by omega) (by omega)
theorem and_mask {a b:Int}(k:Nat) (q:Nat) (ha:a=(q:Int)) (hb:b=((2 ^ k - 1:Nat):Int)) (hk:k < 63) (hm:q < 2 ^ 63):IntKind.i64.wrap ((BitVec.ofInt IntKind.i64.bits a &&& BitVec.ofInt IntKind.i64.bits b).toNat:Int)=((q % 2 ^ k:Nat):Int):=by
 subst ha; subst hb
 have h1:(2:Nat) ^ k < 2 ^ 63:=Nat.pow_lt_pow_right (by omega) hk
 have h2:0 < (2:Nat) ^ k:=Nat.pow_pos (by omega)
 show IntKind.i64.wrap ((BitVec.ofInt 64 _ &&& BitVec.ofInt 64 _).toNat:Int)=_
 rw [BitVec.toNat_and,zdA _ hm,zdA _ (by omega),Nat.and_two_pow_sub_one_eq_mod]
 have h3:=Nat.mod_lt q h2
 exact w64 (by omega) (by omega)
structure Sl {α:Type}(T:Ty α) (e:TypeId) where
  A:Option Addr
  C:Nat
  l:List α
  s:Seg
  own:Own T e A C l s
def Sl.nil {α:Type}{T:Ty α}{e:TypeId}:Sl T e:=⟨none,0,[],[],Own.nil T e⟩
structure Vw {α:Type}(T:Ty α) (w0:World) (base:Nat) (H:List Seg) where
  A:Option Addr
  C:Nat
  l:List α
  rd:Rd T w0 base H A C l
structure Vs (α:Type) where
  A:Option Addr
  C:Nat
  l:List α
abbrev zA0:Int×Int×Int×Bool×Int×Int×Int×Int×Vs UInt8:=(0,0,0,false,0,0,0,0,⟨none,0,[]⟩)
def tyVs (α:Type):Ty (Vs α):={ val:=fun v => .slice v.A v.l.length v.C,sz:=1,ok:=fun _ => rfl,plain:=fun x c hc => by simp [Value.cells] at hc; subst hc; rfl }
section drops
variable {P:Program}{f:FuncId}{fn:Func}{n:Nat}{cs:List Frame}{w0:World}{base:Nat}{H H2:List Seg}{R:Value→List Seg→Prop}{E:Env}{k:List Item}{rs:List ResultVar}{vs:List Value}
theorem Un.leftP (is:List Nat) (q:Nat) (hok:pickOk is q=true) (hH:pickSegs H is q=H2) (hf:P.funcs[f]? = some fn) (hrs:fn.results.toList=rs) (hv:ResP P w0 base H E rs vs) (hR:R (oneOf vs) H2):Un ⟨P,⟨f,.normal,none⟩,n,cs,Left P f cs w0 base R,w0,base⟩ .returning E [] H:=by
 intro a w k ha S
 subst hrs
 exact ⟨_,.refl P _,oneOf vs,H2,_,w,rfl,rfl,⟨rfl,rfl,rfl,fn,hf,zc6 ha S hv⟩,hR,hH ▸ S.pick is q hok⟩
theorem At.retMP (is:List Nat) (q:Nat) (hok:pickOk is q=true) (hH:pickSegs H is q=H2) (hf:P.funcs[f]? = some fn) (hrs:fn.results.toList=rs) (hv:ResP P w0 base H E rs vs) (hR:R (oneOf vs) H2) :
  At ⟨P,⟨f,.normal,none⟩,n,cs,Left P f cs w0 base R,w0,base⟩ (.code .ret::k) E [] H:=At.retU rfl (Un.leftP is q hok hH hf hrs hv hR)
end drops
section joins
variable {X:Pt}{k:List Item}{E:Env}{ds ds' : List Deferred}{H H' : List Seg}{ops:Array Oper}{os os' : List Oper}
theorem AtL.join (m:Nat) {E' : Env}(h:(∀ E2,Sub E' E2→AtL X ops (os.drop m) k E2 ds H')→AtL X ops os k E ds H) (K:AtL X ops (os.drop m) k E' ds H'):AtL X ops os k E ds H:=h fun _ hs => AtL.mono hs K
theorem AtL.joinS (m:Nat) {E' : Env}(h:(∀ E2,Sub E' E2→AtL X ops (os.drop m) k E2 ds H)→AtL X ops os k E ds H) (K:AtL X ops (os.drop m) k E' ds H):AtL X ops os k E ds H:=AtL.join m h K
theorem At.join {k' : List Item}{E' : Env}(h:(∀ E2,Sub E' E2→At X k' E2 ds' H')→At X k E ds H) (K:At X k' E' ds' H'):At X k E ds H:=h fun _ hs => At.mono hs K
theorem boolIs {v b:Bool}(h:v=b):some (Value.bool v)=some (Value.bool b):=by rw [h]
end joins
section skips
variable {X:Pt}{k:List Item}{E:Env}{ds:List Deferred}{H:List Seg}{ops:Array Oper}{os:List Oper}
end skips
section mins
variable {X:Pt}{E:Env}{H:List Seg}{ops:Array Oper}{os:List Oper}{k:List Item}{ds:List Deferred}{d:Nat}{ty:TypeId}{pos:String}{after:Array Edge}{g:Option (Nat×Bool)}{ts:Array TypeId}{x y:Operand}{kk:IntKind}{a b z:Int}
end mins
section nils
variable {X:Pt}{E:Env}{H:List Seg}{ops:Array Oper}{os:List Oper}{k:List Item}{ds:List Deferred}
  {d:Nat}{ty:TypeId}{pos:String}{after:Array Edge}{g:Option (Nat×Bool)}
theorem zfZ {P:Program}{w:World}{n:Nat}{t:TypeId}{ms:Array (String×TypeId)}(hu:P.underlying t=some (.interface ms)):(Op.equalIn (n + 1) t .nilIface .nilIface).run P w = .ok true w:=by
 simp [Op.equalIn,run_underlying hu]
theorem Do.neNilIface {tx tz:TypeId}{x:Operand}{ms:Array (String×TypeId)}(hu:X.P.underlying tx=some (.interface ms)) (hx:ev E x=some .nilIface):Does X E H (.binOp .neq tx x (.const .nilIface) tz) (Is (.bool false) H) :=
 Do.neBy rfl (by cases x <;> rfl) hx rfl (fun w => zfZ hu)
theorem AtL.neNilIface {tx tz:TypeId}{x:Operand}{ms:Array (String×TypeId)}(hu:X.P.underlying tx=some (.interface ms)) (hg:Wd X ops E g) (hd:Nat.blt d X.n=true) (hx:ev E x=some .nilIface) (hk:AtL X ops os k ((d,.bool false)::E) ds H) :
  AtL X ops (⟨some d,.binOp .neq tx x (.const .nilIface) tz,ty,pos,after,g⟩::os) k E ds H :=
 AtL.ofIs (Do.neNilIface hu hx) hg hd hk
end nils
theorem zdz {W:World}{a:Addr}{v:Value}(h:W.cell? a=some v):a.block < W.heap.size:=by
 unfold World.cell? at h
 split at h
 ·rename_i hb
  exact (Array.getElem?_eq_some_iff.1 hb).1
 ·simp at h
theorem addr_at {a:Addr}{W:World}{v:Value}(h:W.cell? (a.add 0)=some v):a=⟨a.block,a.off,none⟩:=by
 have:a.add 0=a:=by simp [Addr.add]
 rw [this] at h
 have hs:=World.cell?_spot h
 cases a
 simp_all
def Reads (P:Program) (W:World) (t:TypeId) {α:Type}(T:Ty α) (Q:α→Prop):Prop :=
 ∀ {H:Type}(enc:TypeId×Value→H) (spare:Nat→Bool) (held:Bool) (fuel:Nat) (cs:List Value) (x:DataW H×List MemPlace),DataW.trod enc P W 0 spare held fuel t cs=some x→(∀ n ∈ x.1.weights P t,n≤140737488351232)→∃ a,cs=(T.val a).cells.toList∧Q a
def I64 (n:Int):Prop:=-9223372036854775808≤n∧n≤9223372036854775807
def tyBool:Ty Bool:={ val:=fun b => .bool b,sz:=1,ok:=fun _ => rfl,plain:=fun x c hc => by simp [Value.cells] at hc; subst hc; rfl }
theorem Reads.int {P:Program}{W:World}{t:TypeId}(ht:P.underlying t=some (.int .i64)):Reads P W t tyI I64:=fun enc spare held fuel cs x h hw0 => by
 obtain ⟨n,rfl,_,hw⟩:=DataW.trod_int ht h
 refine ⟨n,rfl,?_⟩
 simpa [Lit.wf,IntKind.min,IntKind.max,IntKind.signed,IntKind.bits,I64] using hw
theorem Reads.bool {P:Program}{W:World}{t:TypeId}(ht:P.underlying t=some .bool):Reads P W t tyBool (fun _ => True):=fun enc spare held fuel cs x h hw0 => by
 obtain ⟨b,rfl,_⟩:=DataW.trod_bool ht h
 exact ⟨b,rfl,trivial⟩
theorem Reads.u8 {P:Program}{W:World}{t:TypeId}(ht:P.underlying t=some (.int .u8)):Reads P W t tyB (fun _ => True):=fun enc spare held fuel cs x h hw0 => by
 obtain ⟨n,rfl,_,hw⟩:=DataW.trod_int ht h
 have hw:0≤n∧n≤255:=by simpa [Lit.wf,IntKind.min,IntKind.max,IntKind.signed,IntKind.bits] using hw
 refine ⟨UInt8.ofNat n.toNat,?_,trivial⟩
 have e:((UInt8.ofNat n.toNat).toNat:Int)=n:=by
  rw [UInt8.toNat_ofNat_of_lt' (by show n.toNat < 256; omega)]; omega
 show [Value.int .u8 n]=[Value.int .u8 _]
 rw [e]
theorem Reads.str {P:Program}{W:World}{t:TypeId}(ht:P.underlying t=some .string):Reads P W t tyS (fun l => l.length≤140737488351232):=fun enc spare held fuel cs x h hw0 => by
 obtain ⟨s,rfl,hx,hs⟩:=DataW.trod_string ht h
 subst hx
 exact ⟨s.data.toList,rfl,hw0 _ (by simp [DataW.weights])⟩
theorem zcs {H:Type}{P:Program}{e:TypeId}:∀ {ds:List (DataW H)}{d:DataW H},d ∈ ds→∀ n ∈ d.weights P e,n ∈ DataW.weightsAll P e ds
 | d0::ds,d,hd,n,hn => by
  simp only [DataW.weightsAll,List.mem_append]
  rcases List.mem_cons.1 hd with rfl | hd
  ·exact .inl hn
  ·exact .inr (zcs hd n hn)
theorem Reads.slice {P:Program}{W:World}{t e:TypeId}{α:Type}{T:Ty α}{Q:α→Prop}(ht:P.underlying t=some (.slice e)) (hc:P.cellsOf e=T.sz) (hz:0 < T.sz) (k:Nat) (hk:P.bytesOf e=k) (he:Reads P W e T Q) :
  Reads P W t (tyVs α) (fun v => Rd T W W.heap.size [] v.A v.C v.l∧v.l.length * k≤140737488351232∧∀ x ∈ v.l,Q x):=fun {H} enc spare held fuel cs x h hw0 => by
 rcases Deep.open_slice ht h with ⟨rfl,_⟩ | ⟨a,len,cap,m,n,D,Pl,rfl,hb,hl,hm,hmm,hxe,hx⟩
 ·exact ⟨⟨none,0,[]⟩,rfl,Rd.nil_,by simp,by simp⟩
 ·have hlm:len≤m:=by rw [hmm]; split <;> omega
  subst hxe
  have hw1:len * k≤140737488351232:=by
   have:=hw0 _ (by simp only [DataW.weights,ht,List.length_map,List.length_range]; exact List.mem_cons_self ..)
   rw [hk] at this
   exact Nat.le_trans (Nat.mul_le_mul_right _ (by omega)) this
  have hw2:∀ i,i < len→∀ n ∈ (D i).weights P e,n≤140737488351232:=fun i hi n hn => hw0 n (by
   simp only [DataW.weights,ht]
   exact List.mem_cons_of_mem _ (List.mem_append_left _ (zcs (List.mem_map.2 ⟨i,List.mem_range.2 hi,rfl⟩) n hn)))
  have hv:∀ i,∃ y:Option α,i < len→∃ z,y=some z∧Q z∧W.cells? 0 (a.add (i * T.sz)) T.sz=some (T.val z).cells.toList:=fun i => by
   by_cases hi:i < len
   ·obtain ⟨cs',h1,h2⟩:=hx i (by omega)
    obtain ⟨z,rfl,hq⟩:=he enc spare held n cs' _ h2 (hw2 i hi)
    exact ⟨some z,fun _ => ⟨z,rfl,hq,by rw [← hc]; exact h1⟩⟩
   ·exact ⟨none,fun hi2 => absurd hi2 hi⟩
  obtain ⟨f,hf⟩:=Classical.axiomOfChoice hv
  have hlist:∃ l:List α,l.length=len∧∀ i,i < len→∃ z,l[i]? = some z∧Q z∧W.cells? 0 (a.add (i * T.sz)) T.sz=some (T.val z).cells.toList:=by
   have:∀ k,k≤len→∃ l:List α,l.length=k∧∀ i,i < k→∃ z,l[i]? = some z∧Q z∧W.cells? 0 (a.add (i * T.sz)) T.sz=some (T.val z).cells.toList:=by
    intro k
    induction k with
    | zero => exact fun _ => ⟨[],rfl,fun i hi => absurd hi (Nat.not_lt_zero _)⟩
    | succ k ih =>
     intro hk
     obtain ⟨l,hl1,hl2⟩:=ih (by omega)
     obtain ⟨z,_,hq,hz⟩:=hf k (by omega)
     refine ⟨l++[z],by simp [hl1],fun i hi => ?_⟩
     by_cases hik:i < k
     ·obtain ⟨z',h1,h2⟩:=hl2 i hik
      exact ⟨z',by rw [List.getElem?_append_left (by omega)]; exact h1,h2⟩
     ·have:i=k:=by omega
      subst this
      exact ⟨z,by rw [List.getElem?_append_right (by omega),hl1]; simp,hq,hz⟩
   exact this len (Nat.le_refl _)
  obtain ⟨l,hlen,hall⟩:=hlist
  subst hlen
  refine ⟨⟨some a,cap,l⟩,rfl,⟨hl,by simp [maxLen] at hm; show cap≤_; omega,(fun hA => by cases hA),fun hne => ?_⟩,hw1,fun x hx => ?_⟩
  ·have h0:0 < l.length:=List.length_pos_iff.2 hne
   obtain ⟨z0,_,_,hz0⟩:=hall 0 h0
   have hs0:=(World.cells?_some hz0).2.2 0 hz
   rw [Nat.zero_mul] at hs0
   have hlt0:0 < (T.val z0).cells.toList.length:=by rw [Array.length_toList,T.ok]; exact hz
   rw [List.getElem?_eq_getElem hlt0] at hs0
   have haa:a.add 0=a:=by simp [Addr.add]
   rw [haa] at hs0
   have ha:=addr_at hs0
   refine ⟨a.block,a.off,by rw [← ha],fun w S j u hu => ?_⟩
   have hj:j < l.length * T.sz:=by have:=(List.getElem?_eq_some_iff.1 hu).1; rwa [Ty.cells_len] at this
   have hi:j / T.sz < l.length:=Nat.div_lt_of_lt_mul (by rw [Nat.mul_comm]; exact hj)
   obtain ⟨z,hz1,_,hz2⟩:=hall (j / T.sz) hi
   have hk:j % T.sz < T.sz:=Nat.mod_lt _ hz
   have h1:=(World.cells?_some hz2).2.2 (j % T.sz) hk
   have hlt:j % T.sz < (T.val z).cells.toList.length:=by rw [Array.length_toList,T.ok]; exact hk
   have e:j / T.sz * T.sz + j % T.sz=j:=by rw [Nat.mul_comm]; exact Nat.div_add_mod j T.sz
   have h2:=Ty.cells_get (T:=T) (j:=j % T.sz) hz1 (u:=(T.val z).cells.toList[j % T.sz]) (by rw [← Array.getElem?_toList]; exact List.getElem?_eq_getElem hlt)
   rw [e,hu] at h2
   rw [List.getElem?_eq_getElem hlt,← h2,Deep.add_add,e] at h1
   rw [ha,zai] at h1
   have hB:=zdz h1
   rw [S.below.cell hB]
   exact h1
  ·obtain ⟨i,hi⟩:=List.mem_iff_getElem?.1 hx
   obtain ⟨z,h1,h2,_⟩:=hall i (List.getElem?_eq_some_iff.1 hi).1
   rw [hi] at h1
   cases h1
   exact h2
def ReadsF (P:Program) (W:World) (tot off:Nat) (fs:List (TypeId×Nat)) {β:Type}(cells:β→List Value) (Q:β→Prop):Prop :=
 ∀ {H:Type}(enc:TypeId×Value→H) (spare:Nat→Bool) (held:Bool) (n:Nat) (cs:List Value) (xs:List (DataW H×List MemPlace)),cs.length=tot→xs.length=fs.length →
  (∀ (i:Nat) (f:TypeId×Nat),fs[i]? = some f→DataW.trod enc P W 0 spare held n f.1 ((cs.drop f.2).take (P.cellsOf f.1))=xs[i]?)→(∀ m ∈ DataW.weightsEach P (fs.map (·.1)) (xs.map (·.1)),m≤140737488351232)→∃ b,cs.drop off=cells b∧Q b
theorem ReadsF.nil {P:Program}{W:World}(tot:Nat):ReadsF P W tot tot [] (fun (_:Unit) => []) (fun _ => True):=fun enc spare held n cs xs hl _ _ _ => ⟨(),by rw [List.drop_eq_nil_of_le (by omega)],trivial⟩
theorem ReadsF.cons {P:Program}{W:World}{tot:Nat}(off k t:Nat) {fs:List (TypeId×Nat)}{α β:Type}{T:Ty α}{cells:β→List Value}{Q1:α→Prop}{Q:β→Prop}(hk:P.cellsOf t=k) (h1:Reads P W t T Q1) (h2:ReadsF P W tot (off + k) fs cells Q) :
  ReadsF P W tot off ((t,off)::fs) (fun (b:α×β) => (T.val b.1).cells.toList++cells b.2) (fun b => Q1 b.1∧Q b.2):=fun enc spare held n cs xs hl hxl hf hw => by
 cases xs with
 | nil => simp at hxl
 | cons x xs =>
  have h0:=hf 0 (t,off) rfl
  rw [hk] at h0
  obtain ⟨a,ha,qa⟩:=h1 enc spare held n _ x h0 (fun m hm => hw m (by simp only [List.map_cons,DataW.weightsEach,List.mem_append]; exact .inl hm))
  obtain ⟨b,hb,qb⟩:=h2 enc spare held n cs xs hl (by simpa using hxl) (fun i g hg => hf (i + 1) g (by simpa using hg)) (fun m hm => hw m (by simp only [List.map_cons,DataW.weightsEach,List.mem_append]; exact .inr hm))
  refine ⟨(a,b),?_,qa,qb⟩
  show cs.drop off=(T.val a).cells.toList++cells b
  rw [← ha,← hb,← List.drop_drop,List.take_append_drop]
theorem Reads.struct {P:Program}{W:World}{t tot:Nat}{fs:Array Field}{fl:List (TypeId×Nat)}{β γ:Type}{cells:β→List Value}{Q:β→Prop}{T:Ty γ}{Q' : γ→Prop}(h:ReadsF P W tot 0 fl cells Q) (g:β→γ) (ht:P.underlying t=some (.struct fs)) (hfl:fs.toList.map (fun f => (f.type,f.offset))=fl) (hc:P.cellsOf t=tot)
  (hg:∀ b,cells b=(T.val (g b)).cells.toList) (hQ:∀ b,Q b→Q' (g b)):Reads P W t T Q':=fun enc spare held fuel cs x hx hw => by
 obtain ⟨xs,n,_,rfl,hl,hxl,hf⟩:=DataW.trod_struct ht hx
 subst hfl
 obtain ⟨b,hb,qb⟩:=h enc spare held n cs xs (hl.trans hc) (by simpa using hxl) (fun i f hi => by
  rw [List.getElem?_map] at hi
  cases hfi:fs.toList[i]? with
  | none => rw [hfi] at hi; cases hi
  | some f0 =>
   rw [hfi] at hi
   cases hi
   exact hf i f0 (by simpa using hfi)) (fun m hm => hw m (by
  simp only [DataW.weights,ht]
  rw [List.map_map] at hm
  exact hm))
 refine ⟨g b,?_,hQ b qb⟩
 rw [List.drop_zero] at hb
 rw [hb,hg]
theorem law_of {P:Program}{f:FuncId}{args:List Value}{W:World}(h:SCalls P f args W W.heap.size [] (fun v H' => v = .bool true∧H' = [])):Calls P f args.toArray W fun e W' => e = .returned (.bool true)∧Below W.heap.size W W' :=
 (h W (Sep.start W)).mono fun _ _ ⟨v,H',he,⟨hv,_⟩,S⟩ => ⟨by rw [he,hv],S.below⟩
end Go.Proofs.YtdncjmehhahidaaGreatDoor
