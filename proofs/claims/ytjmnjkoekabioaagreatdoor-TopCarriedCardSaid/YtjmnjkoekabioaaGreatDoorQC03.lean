/- Parts of the proof. -/
import Derived.Test.YtjmnjkoekabioaaGreatDoorQC00
import Derived.Test.YtjmnjkoekabioaaGreatDoorQC02
namespace Go.Proofs.YtjmnjkoekabioaaGreatDoor
set_option maxHeartbeats 400000
open Go.RowKit (Below)
set_option linter.unusedVariables false
set_option linter.unusedSimpArgs false
open Go Machine
set_option linter.unusedSectionVars false
open Go
set_option maxRecDepth 100000
variable {ms:Array (String×TypeId)}{after:Array Edge}{ops:Array Oper}{xs:Array Operand}{ts:Array TypeId}{ok:Bool}{E:Env}{f:FuncId}{flags id t z:Int}{ps ps0:List (Int×Bool×Bool)}{a ls:List yB}{F T:List (yB×Int×Nat)}{ds:List Deferred}{cs:List Frame}{is:List Nat}{os:List Oper}{H H':List Seg}{b d hd l r s s0 u w:yB}{cl vs:List Value}{C base e i j k m n n0 nx o sz:Nat}{x y:Operand}{g:Option (Nat×Bool)}{A Aa An Aq Ar:Option Addr}{P:Program}{X:Pt}{α β:Type}{dd:TypeDesc}{et kt te ty:TypeId}{c:UInt8}{p:UInt8→Bool}{R:Value→List Seg→Prop}{w0:World}
theorem zcl:zgq Tryz.prog 3=true:=by kernel_rfl
theorem zbp:za5 Tryz.prog 3 1=true:=by kernel_rfl
theorem zdb:zbr Tryz.prog 3=some (.int .i64 0):=by kernel_rfl
theorem zeQ:zgq Tryz.prog 4=true:=by kernel_rfl
theorem zrp:za5 Tryz.prog 4 1=true:=by kernel_rfl
theorem zvk:zbr Tryz.prog 4=some (.bool false):=by kernel_rfl
theorem zcP:zgq Tryz.prog 5=true:=by kernel_rfl
theorem zaF:za5 Tryz.prog 5 1=true:=by kernel_rfl
theorem zbO:zbr Tryz.prog 5=some (.int .u8 0):=by kernel_rfl
theorem zbz:zgq Tryz.prog 9=true:=by kernel_rfl
theorem zdh:za5 Tryz.prog 9 1=true:=by kernel_rfl
theorem zeP:zbr Tryz.prog 9=some (str []):=by kernel_rfl
theorem znn:za5 Tryz.prog 23 1=true:=by kernel_rfl
theorem zeR:aggN Tryz.prog 25=some 6:=by kernel_rfl
theorem ziF:zbr Tryz.prog 25=some (.agg #[.int .i64 0,.int .i64 0,.slice none 0 0,.slice none 0 0,.slice none 0 0,.slice none 0 0]):=by kernel_rfl
theorem zbw:zgq Tryz.prog 28=true:=by kernel_rfl
theorem zrq:za5 Tryz.prog 28 1=true:=by kernel_rfl
theorem ziE:zbr Tryz.prog 28=some (.int .i64 0):=by kernel_rfl
theorem zb3:zgq Tryz.prog 31=true:=by kernel_rfl
theorem zha:za5 Tryz.prog 31 1=true:=by kernel_rfl
theorem ziD:zbr Tryz.prog 31=some (.slice none 0 0):=by kernel_rfl
theorem zav:ElemOk Tryz.prog 31 5 tyB (0:UInt8) 1:=ElemOk.of Tryz.underlying31 kW kW rfl
theorem zdJ:za5 Tryz.prog 35 2=true:=by kernel_rfl
theorem zbi:aggN Tryz.prog 35=some 2:=by kernel_rfl
theorem zaH:zbr Tryz.prog 35=some (.agg #[.int .i64 0,.int .i64 0]):=by kernel_rfl
theorem zbe:zfi Tryz.prog 35=some ([(0,1),(1,1)],[.int .i64 0,.int .i64 0]):=by kernel_rfl
theorem zdK:zgq Tryz.prog 40=true:=by kernel_rfl
theorem zro:zbr Tryz.prog 44=some (.slice none 0 0):=by kernel_rfl
theorem zno:ElemOk Tryz.prog 44 31 tyL (⟨none,0,[]⟩:Bs) 24:=ElemOk.of Tryz.underlying44 kW kW rfl
theorem zbs:za5 Tryz.prog 51 5=true:=by kernel_rfl
theorem zbF:aggN Tryz.prog 51=some 5:=by kernel_rfl
theorem zbg:zbr Tryz.prog 51=some (.agg #[str [],.int .i64 0,.int .i64 0,.int .i64 0,str []]):=by kernel_rfl
theorem zrw:zcb Tryz.prog 51 0=some 0:=by kernel_rfl
theorem zrv:zcb Tryz.prog 51 3=some 3:=by kernel_rfl
theorem zru:zcb Tryz.prog 51 4=some 4:=by kernel_rfl
theorem zd1:aggN Tryz.prog 55=some 4:=by kernel_rfl
theorem zfo:zbr Tryz.prog 55=some (.agg #[.int .i64 0,.slice none 0 0,.slice none 0 0,.bool false]):=by kernel_rfl
theorem zd0:zfi Tryz.prog 55=some ([(0,1),(1,1),(2,1),(3,1)],[.int .i64 0,.slice none 0 0,.slice none 0 0,.bool false]):=by kernel_rfl
theorem zfp:za5 Tryz.prog 77 3=true:=by kernel_rfl
theorem zih:aggN Tryz.prog 77=some 3:=by kernel_rfl
theorem zev:zbr Tryz.prog 77=some (.agg #[str [],.int .i64 0,.int .i64 0]):=by kernel_rfl
theorem zrt:zcb Tryz.prog 77 0=some 0:=by kernel_rfl
theorem zyF:za5 Tryz.prog 82 3=true:=by kernel_rfl
theorem zvl:aggN Tryz.prog 82=some 3:=by kernel_rfl
theorem zrn:zbr Tryz.prog 82=some (.agg #[.pointer none,.pointer none,.pointer none]):=by kernel_rfl
theorem zrm:zbr Tryz.prog 88=some (.agg #[.int .i64 0,.int .i64 0,.int .i64 0,.int .i64 0,.int .i64 0,.int .i64 0]):=by kernel_rfl
theorem zrs:zfi Tryz.prog 101=some ([(0,1),(1,1),(2,3),(5,1)],[.int .i64 0,.bool false,.slice none 0 0,.int .i64 0,.int .i8 0,.int .i64 0]):=by kernel_rfl
theorem zqb:zcb Tryz.prog 101 0=some 0:=by kernel_rfl
theorem zhb:zcb Tryz.prog 101 2=some 2:=by kernel_rfl
theorem zj3:zcb Tryz.prog 101 3=some 5:=by kernel_rfl
theorem zoE:ElemOk Tryz.prog 110 3 tyI (0:Int) 8:=ElemOk.of Tryz.underlying110 kW kW rfl
theorem zcB:za5 Tryz.prog 112 2=true:=by kernel_rfl
theorem zfr:aggN Tryz.prog 112=some 2:=by kernel_rfl
theorem zbB:zbr Tryz.prog 112=some (.agg #[str [],str []]):=by kernel_rfl
theorem zfq:zfi Tryz.prog 112=some ([(0,1),(1,1)],[str [],str []]):=by kernel_rfl
theorem zhc:zgq Tryz.prog 171=true:=by kernel_rfl
theorem zj0:zbr Tryz.prog 171=some (.slice none 0 0):=by kernel_rfl
theorem zoD:ElemOk Tryz.prog 171 9 tyS ([]:yB) 16:=ElemOk.of Tryz.underlying171 kW kW rfl
theorem zfX:za5 Tryz.prog 177 3=true:=by kernel_rfl
theorem zdB:zbr Tryz.prog 177=some (.agg #[.pointer none,.nilFunc,.bool false]):=by kernel_rfl
theorem zgD:zfi Tryz.prog 177=some ([(0,1),(1,1),(2,1)],[.pointer none,.nilFunc,.bool false]):=by kernel_rfl
theorem zlT:zfi Tryz.prog 183=some ([(0,1),(1,1),(2,2)],[.slice none 0 0,.int .i64 0,.int .i64 0,.int .i64 0]):=by kernel_rfl
theorem zkQ:za5 Tryz.prog 199 2=true:=by kernel_rfl
theorem zqa:zbr Tryz.prog 199=some (.agg #[.pointer none,.slice none 0 0]):=by kernel_rfl
theorem zoC:za5 Tryz.prog 257 4=true:=by kernel_rfl
theorem zjZ:zbr Tryz.prog 257=some (.agg #[str [],str [],.int .i64 0,.slice none 0 0]):=by kernel_rfl
theorem zex:zfi Tryz.prog 257=some ([(0,1),(1,1),(2,1),(3,1)],[str [],str [],.int .i64 0,.slice none 0 0]):=by kernel_rfl
theorem zp9:zbr Tryz.prog 277=some (.agg #[.int .u8 0,.int .u8 0]):=by kernel_rfl
theorem zrr:zfi Tryz.prog 280=some ([(0,1),(1,1)],[.map none,.int .i64 0]):=by kernel_rfl
theorem zdC:zgq Tryz.prog 321=true:=by kernel_rfl
theorem zkP:za5 Tryz.prog 321 1=true:=by kernel_rfl
theorem zp8:zbr Tryz.prog 321=some (.slice none 0 0):=by kernel_rfl
theorem zp7:zbr Tryz.prog 331=some (.slice none 0 0):=by kernel_rfl
theorem zb9:za5 Tryz.prog 335 3=true:=by kernel_rfl
theorem zez:aggN Tryz.prog 335=some 3:=by kernel_rfl
theorem zbb:zbr Tryz.prog 335=some (.agg #[.int .i64 0,.bool false,.bool false]):=by kernel_rfl
theorem zew:zfi Tryz.prog 335=some ([(0,1),(1,1),(2,1)],[.int .i64 0,.bool false,.bool false]):=by kernel_rfl
theorem zp6:zbr Tryz.prog 341=some (.agg #[str []]):=by kernel_rfl
theorem zbE:zfi Tryz.prog 341=some ([(0,1)],[str []]):=by kernel_rfl
theorem zp5:zbr Tryz.prog 398=some (.agg #[.int .u8 0,.int .u8 0,.int .u8 0,.int .u8 0]):=by kernel_rfl
theorem zfW:za5 Tryz.prog 400 2=true:=by kernel_rfl
theorem zlX:aggN Tryz.prog 400=some 2:=by kernel_rfl
theorem zdA:zbr Tryz.prog 400=some (.agg #[str [],.bool false]):=by kernel_rfl
theorem zgC:zfi Tryz.prog 400=some ([(0,1),(1,1)],[str [],.bool false]):=by kernel_rfl
theorem zjY:zbr Tryz.prog 427=some (.agg #[]):=by kernel_rfl
theorem zgB:zfi Tryz.prog 427=some ([],[]):=by kernel_rfl
theorem zoB:za5 Tryz.prog 488 256=true:=by kernel_rfl
theorem zlW:aggN Tryz.prog 488=some 256:=by kernel_rfl
theorem zjX:zbr Tryz.prog 488=some (.agg (tyBool.cells (List.replicate 256 false)).toArray):=by kernel_rfl
theorem zj1:(Value.agg (tyBool.cells (List.replicate 256 false)).toArray).cells=(tyBool.cells (List.replicate 256 false)).toArray:=rfl
theorem zaz:Tryz.prog.follows .mixedOrders=true:=by kernel_rfl
theorem zrH:Body Tryz.prog 30:=Body.of kW
theorem zrG:Body Tryz.prog 33:=Body.of kW
theorem zcs:Body Tryz.prog 34:=Body.of kW
theorem zrF:Body Tryz.prog 41:=Body.of kW
theorem zrE:Body Tryz.prog 44:=Body.of kW
theorem zcr:Body Tryz.prog 64:=Body.of kW
theorem zrD:Body Tryz.prog 82:=Body.of kW
theorem zrC:Body Tryz.prog 83:=Body.of kW
theorem zrB:Body Tryz.prog 84:=Body.of kW
theorem zrA:Body Tryz.prog 85:=Body.of kW
theorem zlV:Body Tryz.prog 91:=Body.of kW
theorem zrz:Body Tryz.prog 94:=Body.of kW
theorem zry:Body Tryz.prog 95:=Body.of kW
theorem zlU:Body Tryz.prog 96:=Body.of kW
theorem zrx:Body Tryz.prog 97:=Body.of kW
theorem zdD:Body Tryz.prog 101:=Body.of kW
theorem zqe:Body Tryz.prog 103:=Body.of kW
theorem zj9:Body Tryz.prog 104:=Body.of kW
theorem zfY:Body Tryz.prog 157:=Body.of kW
theorem zj8:Body Tryz.prog 159:=Body.of kW
theorem zj7:Body Tryz.prog 161:=Body.of kW
theorem zqd:Body Tryz.prog 225:=Body.of kW
theorem zey:Body Tryz.prog 226:=Body.of kW
theorem zqc:Body Tryz.prog 228:=Body.of kW
theorem zj6:Body Tryz.prog 229:=Body.of kW
theorem zj5:Body Tryz.prog 231:=Body.of kW
theorem wdQ (h:Wd X ops E g:=by first | exact .inl rfl | exact .inr ⟨_,_,_,rfl,rfl,rfl,rfl⟩):Wd X ops E g:=h
theorem kR {p:Prop}(h:p:=by kernel_rfl):p:=h
theorem coQ {p:Addr}{v:Value}(h:Cell w0 base H p v:=by first | exact Cell.own 0 0 rfl rfl rfl | exact Cell.own 1 0 rfl rfl rfl | exact Cell.own 2 0 rfl rfl rfl | exact Cell.own 3 0 rfl rfl rfl | exact Cell.own 4 0 rfl rfl rfl | exact Cell.own 5 0 rfl rfl rfl | exact Cell.own 6 0 rfl rfl rfl | exact Cell.own 7 0 rfl rfl rfl | exact Cell.own 8 0 rfl rfl rfl | exact Cell.own 9 0 rfl rfl rfl | exact Cell.own 10 0 rfl rfl rfl | exact Cell.own 11 0 rfl rfl rfl | exact Cell.own 12 0 rfl rfl rfl | exact Cell.own 13 0 rfl rfl rfl):Cell w0 base H p v:=h
def auS {α:Type}:List α→Nat→α→List α
 | [],_,_ => []
 | _::l,0,y => y::l
 | x::l,n + 1,y => x::auS l n y
def auP {α:Type}:List α→Nat→List α→List α
 | [],_,ys => ys
 | x::l,n + 1,ys => x::auP l n ys
 | x::l,0,[] => x::l
 | _::l,0,y::ys => y::auP l 0 ys
def auN:List Seg→Nat→Seg
 | [],_ => []
 | s::_,0 => s
 | _::l,n + 1 => auN l n
def auD:Nat→List Seg→List Seg
 | 0,l => l
 | n + 1,l => auD n l.tail
def auK (H:List Seg):List Nat→Nat→List Seg
 | [],m => auD m H
 | i::is,m => auN H i::auK H is m
theorem zyo {α:Type}:∀ (l:List α) (n:Nat) (y:α),auS l n y=l.set n y
 | [],_,_ => rfl
 | _::_,0,_ => rfl
 | _::l,n + 1,y => zDh _ (zyo l n y)
theorem zuo {α:Type}:∀ (l:List α) (n:Nat) (ys:List α),n + ys.length≤l.length→auP l n ys=l.take n++ys++l.drop (n + ys.length)
 | [],n,ys,h => by
  have h1:ys=[]:=zDk (by rw [zC8] at h; omega)
  subst h1; simp [auP]
 | x::l,n + 1,ys,h => by
  have:=zuo l n ys (by simp at h; omega)
  simp only [auP,this,zFm,zDr,show n + 1 + ys.length=n + ys.length + 1 by omega,zE4]
 | x::l,0,[],_ => by simp [auP]
 | _::l,0,y::ys,h => by
  have:=zuo l 0 ys (by simp at h ⊢; omega)
  simp only [auP,this,zFr,zDG,zEi,zC7,zE4,zDr]
theorem zyq:∀ (l:List Seg) (n:Nat),auN l n=(l[n]?).getD []
 | [],_ => rfl
 | _::_,0 => rfl
 | _::l,n + 1 => zyq l n
theorem zup:∀ (n:Nat) (l:List Seg),auD n l=l.drop n
 | 0,l => by simp [auD]
 | n + 1,[] => by rw [auD,zup n]; simp
 | n + 1,_::l => by rw [auD,zup n]; simp
theorem zpL (H:List Seg):∀ (is:List Nat) (m:Nat),auK H is m=zbj H is m
 | [],m => zup m H
 | i::is,m => by rw [auK,zbj,zpL H is m,zyq]
theorem zc2 {k:List Item}{pos:String}{t:Nat}{b:Nat}{v:Value}{s:Seg}{e:TypeId}{fr:Nat×Nat}(i:Nat)
  (hg:Wd X ops E g) (hx:ev E x=some (.pointer (some ⟨b,o,none⟩))) (hi:H[i]? = some ((b,.cells cl.toArray e fr)::s)) (hy:ev E y=some v) (hv:v.cells=vs.toArray) (hsz:za5 X.P t vs.length=true) (h1:vs.all (·.oneCell')=true) (ho:Nat.ble (o + vs.length) cl.length=true) (hfr:noFr fr o vs.length=true)
  (hH:auS H i ((b,.cells (auP cl o vs).toArray e fr)::s)=H') (hk:AtL X ops os k E ds H'):AtL X ops (⟨none,.store t x y,ty,pos,after,g⟩::os) k E ds H:=by
 have ho':=zDT ho
 refine zjw (n:=vs.length) i 0 hsz hg hx hy hi Z (by rw [hv]; simp) (by rw [hv]; simpa using h1) (by simpa using ho) hfr ?_ hk
 rw [← hH,zyo,zuo cl o vs ho',hv]
 simp [zbH]
def PkG (is:List Nat) (m:Nat) (p:Prop):Prop:=p
theorem zC4 {k:List Item}(hok:zc5 is m=true) (hH:auK H is m=H') (h:At X k E ds H'):PkG is m (At X k E ds H):=At.pick is m hok (by rw [← zpL]; exact hH) h
theorem zA7 {k:List Item}(hok:zc5 is m=true) (hH:auK H is m=H') (h:AtL X ops os k E ds H'):PkG is m (AtL X ops os k E ds H):=AtL.pick is m hok (by rw [← zpL]; exact hH) h
theorem zCQ {fm:FrameMode}(hok:zc5 is m=true) (hH:auK H is m=H') (h:Un X fm E ds H'):PkG is m (Un X fm E ds H):=Un.pick is m hok (by rw [← zpL]; exact hH) h
theorem nL {x y:α}(h:x=y:=by (dsimp only [auK,auN,auD,auS,auP,List.tail_cons] <;> exact rfl)):x=y:=h
theorem zpk {G G' : Prop}(is:List Nat) (m:Nat) (k:G') (h:G'→PkG is m G:=by
 intro k
 first
  | refine zC4 rfl nL ?_
  | refine zA7 rfl nL ?_
  | refine zCQ rfl nL ?_
 exact k):G:=h k
theorem pz {p:Prop}(h:p:=by first
  | exact .inr ⟨_,rfl,rfl,.inl ⟨rfl,Do.move rfl⟩⟩
  | exact .inr ⟨_,rfl,rfl,.inl ⟨rfl,Do.assign rfl⟩⟩
  | exact .inr ⟨_,rfl,rfl,.inl ⟨rfl,ze7 rfl⟩⟩
  | exact .inr ⟨_,rfl,rfl,.inl ⟨rfl,Do.extract rfl rfl⟩⟩
  | exact .inr ⟨_,rfl,rfl,.inl ⟨rfl,ze9 rfl rfl rfl⟩⟩
  | exact .inr ⟨_,rfl,rfl,.inl ⟨rfl,zdV rfl rfl coQ⟩⟩):p:=h
theorem vcQ {v:Value}(h:v.cells=vs.toArray:=by first | exact rfl | exact (rfl:_=([_]:List Value).toArray)):v.cells=vs.toArray:=h
theorem stQ {G G' : Prop}(k:G') (h:G'→G:=by
 intro k
 first
  | refine zc2 0 wdQ rfl rfl rfl vcQ kR kR kR kR nL ?_
  | refine zc2 1 wdQ rfl rfl rfl vcQ kR kR kR kR nL ?_
  | refine zc2 2 wdQ rfl rfl rfl vcQ kR kR kR kR nL ?_
  | refine zc2 3 wdQ rfl rfl rfl vcQ kR kR kR kR nL ?_
  | refine zc2 4 wdQ rfl rfl rfl vcQ kR kR kR kR nL ?_
  | refine zc2 5 wdQ rfl rfl rfl vcQ kR kR kR kR nL ?_
  | refine zc2 6 wdQ rfl rfl rfl vcQ kR kR kR kR nL ?_
  | refine zc2 7 wdQ rfl rfl rfl vcQ kR kR kR kR nL ?_
  | refine zc2 8 wdQ rfl rfl rfl vcQ kR kR kR kR nL ?_
  | refine zc2 9 wdQ rfl rfl rfl vcQ kR kR kR kR nL ?_
  | refine zc2 10 wdQ rfl rfl rfl vcQ kR kR kR kR nL ?_
  | refine zc2 11 wdQ rfl rfl rfl vcQ kR kR kR kR nL ?_
  | refine zc2 12 wdQ rfl rfl rfl vcQ kR kR kR kR nL ?_
  | refine zc2 13 wdQ rfl rfl rfl vcQ kR kR kR kR nL ?_
 exact k):G:=h k
def auT {α:Type}:Nat→List α→List α
 | n + 1,x::l => x::auT n l
 | _,_ => []
def auR {α:Type}:Nat→List α→List α
 | n + 1,_::l => auR n l
 | _,l => l
theorem zyn {α:Type}:∀ (n:Nat) (l:List α),auT n l=l.take n
 | 0,_ => by simp [auT]
 | n + 1,[] => by simp [auT]
 | n + 1,x::l => by simp [auT,zyn n l]
theorem zyp {α:Type}:∀ (n:Nat) (l:List α),auR n l=l.drop n
 | 0,_ => by simp [auR]
 | n + 1,[] => by simp [auR]
 | n + 1,x::l => by simp [auR,zyp n l]
theorem mL {x y:α}(h:x=y:=by (dsimp only [auT,auR] <;> exact rfl)):x=y:=h
theorem zcx {k:List Item}{pos:String}{d t b:Nat}{cs:List Value}{s:Seg}{e:TypeId}{fr:Nat×Nat}(i:Nat)
  (hf:aggN X.P t=some n) (hg:Wd X ops E g) (hd:Nat.blt d X.n=true) (hx:ev E x=some (.pointer (some ⟨b,o,none⟩))) (hi:H[i]? = some ((b,.cells cl.toArray e fr)::s)) (hv:auT n (auR o cl)=cs) (hn:Nat.beq cs.length n=true)
  (hk:AtL X ops os k ((d,.agg cs.toArray)::E) ds H):AtL X ops (⟨some d,.load t x,ty,pos,after,g⟩::os) k E ds H:=by
 have hn':=zD6 hn
 refine zni (cs:=cs) hf hg hd hx hn' (fun j v hj => zaw i 0 o hi Z ?_ j v hj) hk
 rw [zyn,zyp] at hv
 rw [hn']; exact hv
theorem ldQ {G G' : Prop}(k:G') (h:G'→G:=by
 intro k
 first
  | refine zcx 0 rfl wdQ rfl rfl rfl mL kR ?_
  | refine zcx 1 rfl wdQ rfl rfl rfl mL kR ?_
  | refine zcx 2 rfl wdQ rfl rfl rfl mL kR ?_
  | refine zcx 3 rfl wdQ rfl rfl rfl mL kR ?_
  | refine zcx 4 rfl wdQ rfl rfl rfl mL kR ?_
  | refine zcx 5 rfl wdQ rfl rfl rfl mL kR ?_
  | refine zcx 6 rfl wdQ rfl rfl rfl mL kR ?_
  | refine zcx 7 rfl wdQ rfl rfl rfl mL kR ?_
  | refine zcx 8 rfl wdQ rfl rfl rfl mL kR ?_
  | refine zcx 9 rfl wdQ rfl rfl rfl mL kR ?_
 exact k):G:=h k
theorem zjz {p q:Prop}(hq:q) (h:p:=by exact pz):p∧q:=⟨h,hq⟩
theorem zjk {p q r:Prop}(hq:r) (h:p:=by kernel_rfl):(p∨q)∧r:=⟨.inl h,hq⟩
theorem zj2 {p q r:Prop}(hr:r) (h:p:=by exact pz) (h2:q:=by exact pz):p∧q∧r:=⟨h,h2,hr⟩
theorem zj4 {p q r s t:Prop}(ht:t) (h:p:=by exact pz) (h2:q:=by exact pz) (h3:r:=by exact pz) (h4:s:=by exact pz):p∧q∧r∧s∧t:=⟨h,h2,h3,h4,ht⟩
theorem zk4 {p q r s p' q' r' s' t:Prop}(ht:t) (h:p:=by kernel_rfl) (h2:q:=by kernel_rfl) (h3:r:=by kernel_rfl) (h4:s:=by kernel_rfl):(p∨p')∧(q∨q')∧(r∨r')∧(s∨s')∧t:=⟨.inl h,.inl h2,.inl h3,.inl h4,ht⟩
theorem zca {k:List Item}{dst:Option Nat}{pos:String}{args:List Value}
  (hx:evs E xs.toList=some args) (hc:SCalls X.P f args X.w0 X.base H R) (hk:∀ v H',R v H'→AtL X ops os k (putE E dst v) ds H') (hd:zcq X.n dst=true:=by exact Z) (hg:Wd X ops E g:=by exact wdQ) (hb:zAD X.P f=true:=by kernel_rfl) :
  AtL X ops (⟨dst,.call ⟨.value (.func f),xs,ts⟩,ty,pos,after,g⟩::os) k E ds H:=zge (Body.of hb) hg hd hx hc hk
theorem zen {p:Prop}(h:p:=by
 repeat' (first | exact trivial | refine And.intro ?_ ?_ | rfl)
 all_goals first | exact zgE (by simp []) | exact zgP kQ | exact zgP (by simp []) | exact zgE (by simp []; omega)):p:=h
theorem zej {p:Prop}(h:p:=by
 repeat' (first | exact trivial | refine And.intro ?_ ?_ | rfl)
 all_goals exact zCA (by clear J; first | (simp_all; done) | grind)):p:=h
theorem w6 (h1:-9223372036854775808≤z:=by ((try clear k0); (try clear k1); (try clear k2); (try clear k3); (try clear k4); (try clear k5); omega)) (h2:z≤9223372036854775807:=by ((try clear k0); (try clear k1); (try clear k2); (try clear k3); (try clear k4); (try clear k5); omega)):IntKind.i64.wrap z=z:=w64 h1 h2
theorem a1 {G G' : Prop}(k:G') (h:G'→G:=by
 intro k0
 first
  | with_reducible refine zfg ?_
  | with_reducible refine zcA ?_
  | refine AtL.done ?_
  | refine AtL.move wdQ rfl rfl ?_
  | refine AtL.assign wdQ rfl rfl ?_
  | refine zon rfl rfl rfl rfl rfl rfl ?_
  | refine AtL.extract wdQ rfl rfl rfl ?_
  | with_reducible refine zlJ ?_
  | with_reducible refine At.block ?_
  | with_reducible refine zhE ?_
  | refine zop wdQ rfl rfl rfl ?_
  | refine zuW wdQ rfl rfl rfl ?_
  | refine zA8 wdQ rfl rfl rfl ?_
  | refine zBc wdQ rfl rfl rfl ?_
  | refine zA9 wdQ rfl rfl rfl ?_
  | refine zBb wdQ rfl rfl rfl ?_
  | refine zoo wdQ rfl rfl ?_
  | refine zci wdQ rfl rfl ?_
  | refine zuV wdQ rfl rfl rfl ?_
  | refine zuU wdQ rfl rfl rfl ?_
  | with_reducible refine zxR ?_
  | refine zBd rfl ?_
  | refine zxQ rfl ?_
  | refine zp0 rfl ?_
  | refine zbL rfl wdQ rfl rfl rfl ?_
  | refine zax rfl wdQ rfl rfl coQ ?_
  | refine zxH rfl wdQ rfl rfl ?_
  | refine stQ ?_
  | refine AtL.add wdQ rfl rfl rfl w6 ?_
  | refine AtL.sub wdQ rfl rfl rfl w6 ?_
  | refine zfa wdQ rfl rfl rfl w6 ?_
  | refine ldQ ?_
 exact k0):G:=h k
theorem a2 {G G' : Prop}(k:G') (h:G'→G:=by intro k1; refine a1 ?_; refine a1 ?_; exact k1):G:=h k
theorem a3 {G G' : Prop}(k:G') (h:G'→G:=by intro k2; refine a2 ?_; refine a1 ?_; exact k2):G:=h k
theorem a4 {G G' : Prop}(k:G') (h:G'→G:=by intro k2; refine a2 ?_; refine a2 ?_; exact k2):G:=h k
theorem a5 {G G' : Prop}(k:G') (h:G'→G:=by intro k3; refine a3 ?_; refine a2 ?_; exact k3):G:=h k
theorem a6 {G G' : Prop}(k:G') (h:G'→G:=by intro k3; refine a3 ?_; refine a3 ?_; exact k3):G:=h k
theorem a7 {G G' : Prop}(k:G') (h:G'→G:=by intro k3; refine a4 ?_; refine a3 ?_; exact k3):G:=h k
theorem a8 {G G' : Prop}(k:G') (h:G'→G:=by intro k3; refine a4 ?_; refine a4 ?_; exact k3):G:=h k
theorem a9 {G G' : Prop}(k:G') (h:G'→G:=by intro k4; refine a5 ?_; refine a4 ?_; exact k4):G:=h k
theorem a10 {G G' : Prop}(k:G') (h:G'→G:=by intro k4; refine a5 ?_; refine a5 ?_; exact k4):G:=h k
theorem a11 {G G' : Prop}(k:G') (h:G'→G:=by intro k4; refine a6 ?_; refine a5 ?_; exact k4):G:=h k
theorem a12 {G G' : Prop}(k:G') (h:G'→G:=by intro k4; refine a6 ?_; refine a6 ?_; exact k4):G:=h k
theorem a13 {G G' : Prop}(k:G') (h:G'→G:=by intro k4; refine a7 ?_; refine a6 ?_; exact k4):G:=h k
theorem a14 {G G' : Prop}(k:G') (h:G'→G:=by intro k4; refine a7 ?_; refine a7 ?_; exact k4):G:=h k
theorem a15 {G G' : Prop}(k:G') (h:G'→G:=by intro k4; refine a8 ?_; refine a7 ?_; exact k4):G:=h k
theorem a16 {G G' : Prop}(k:G') (h:G'→G:=by intro k4; refine a8 ?_; refine a8 ?_; exact k4):G:=h k
theorem a17 {G G' : Prop}(k:G') (h:G'→G:=by intro k5; refine a9 ?_; refine a8 ?_; exact k5):G:=h k
theorem a18 {G G' : Prop}(k:G') (h:G'→G:=by intro k5; refine a9 ?_; refine a9 ?_; exact k5):G:=h k
theorem a19 {G G' : Prop}(k:G') (h:G'→G:=by intro k5; refine a10 ?_; refine a9 ?_; exact k5):G:=h k
theorem a20 {G G' : Prop}(k:G') (h:G'→G:=by intro k5; refine a10 ?_; refine a10 ?_; exact k5):G:=h k
theorem a21 {G G' : Prop}(k:G') (h:G'→G:=by intro k5; refine a11 ?_; refine a10 ?_; exact k5):G:=h k
theorem a22 {G G' : Prop}(k:G') (h:G'→G:=by intro k5; refine a11 ?_; refine a11 ?_; exact k5):G:=h k
theorem a23 {G G' : Prop}(k:G') (h:G'→G:=by intro k5; refine a12 ?_; refine a11 ?_; exact k5):G:=h k
theorem a24 {G G' : Prop}(k:G') (h:G'→G:=by intro k5; refine a12 ?_; refine a12 ?_; exact k5):G:=h k
theorem a25 {G G' : Prop}(k:G') (h:G'→G:=by intro k5; refine a13 ?_; refine a12 ?_; exact k5):G:=h k
theorem a26 {G G' : Prop}(k:G') (h:G'→G:=by intro k5; refine a13 ?_; refine a13 ?_; exact k5):G:=h k
theorem a27 {G G' : Prop}(k:G') (h:G'→G:=by intro k5; refine a14 ?_; refine a13 ?_; exact k5):G:=h k
theorem a28 {G G' : Prop}(k:G') (h:G'→G:=by intro k5; refine a14 ?_; refine a14 ?_; exact k5):G:=h k
theorem a29 {G G' : Prop}(k:G') (h:G'→G:=by intro k5; refine a15 ?_; refine a14 ?_; exact k5):G:=h k
theorem a30 {G G' : Prop}(k:G') (h:G'→G:=by intro k5; refine a15 ?_; refine a15 ?_; exact k5):G:=h k
def JnG (n t:Nat) (E' : Env) (p:Prop):Prop:=p
theorem zBa {E':Env}{k:List Item}{t:Nat}{b:Bool}(hb:Env.get E t=some (.bool b))
  (h1:(∀ E2,Sub E' E2→AtL X ops (os.drop n) k E2 ds H)→b=true→AtL X ops os k ((t,.bool true)::E) ds H) (h2:(∀ E2,Sub E' E2→AtL X ops (os.drop n) k E2 ds H)→b=false→AtL X ops os k ((t,.bool false)::E) ds H)
  (K:AtL X ops (os.drop n) k E' ds H):JnG n t E' (AtL X ops os k E ds H):=zaK hb (h1 fun _ hs => AtL.mono hs K) (h2 fun _ hs => AtL.mono hs K)
theorem zjs {G:Prop}(h:G:=by
 first
  | exact J _ zej
  | (refine a1 ?_; first
   | exact J _ zej
   | (refine a1 ?_; first
    | exact J _ zej
    | (refine a1 ?_; first
     | exact J _ zej
     | (refine a1 ?_; first
      | exact J _ zej
      | (refine a1 ?_; first
       | exact J _ zej
       | (refine a1 ?_; first
        | exact J _ zej
        | (refine a1 ?_; exact J _ zej)))))))):G:=h
theorem zjn {G G' : Prop}(n t:Nat) (E' : Env) (k:G') (h:G'→JnG n t E' G:=by
 intro k0
 refine zBa Z (fun J hs => ?_) (fun J hs => ?_) ?_
 ·try simp only [zD7] at hs
  exact zjs
 ·try simp only [zDY] at hs
  exact zjs
 ·exact k0):G:=h k
def mark (i:Nat):UInt8:=UInt8.ofNat (160 + i % 90)
def pick (x n:Int):Int:=if n < 1 then 0 else x % n
theorem zvh {x n:Int}(hn:1≤n) (h:x.tmod n < 0):x.tmod n + n=x % n:=by
 have h1:=zE6 x (show n≠0 by omega)
 have h2:=zE7 x (show 0 < n by omega)
 rw [zF9] at h ⊢
 split at h <;> rename_i hc
 ·omega
 ·rw [zDb hc]; omega
theorem zvg {x n:Int}(hn:1≤n) (h:0≤x.tmod n):x.tmod n=x % n:=by
 have h1:=zE6 x (show n≠0 by omega)
 have h2:=zE7 x (show 0 < n by omega)
 rw [zF9] at h ⊢
 split at h <;> rename_i hc
 ·rw [zDi hc]; omega
 ·omega
theorem zyE {x n:Int}(hn:1≤n):- n < x.tmod n∧x.tmod n < n:=by
 have h1:=zE6 x (show n≠0 by omega)
 have h2:=zE7 x (show 0 < n by omega)
 rw [zF9]
 split <;> omega
theorem zyR {A2:Option Addr}{C2:Nat}{l2:yB}(h:Rd tyB w0 base H A C l) (h2:Rd tyB w0 base H A2 C2 l2) :
  SCalls Tryz.prog 14 [.slice A l.length C,.slice A2 l2.length C2] w0 base (H) (fun v H' => v = .bool (decide (l=l2))∧H' = H):=by
 refine zaa (n:=10) Tryz.func14 Z Z Z fun cs => ?_
 refine a7 ?_
 refine zcw h Z Z Z zg0 Z Z<|a1 ?_
 refine zcw h2 Z Z Z zg0 Z Z<|zfb (a:=l) (b:=l2) zg0 Z Z Z<|a2 ?_
 exact zad Tryz.func14 Z Z (⟨Z,Z⟩)
theorem zpi (x n:Int) (hn:n≤4611686018427387904) :
  SCalls Tryz.prog 7 [vV x,vV n] w0 base (H) (fun v H' => v=int (pick x n)∧H' = H):=by
 refine zaa (n:=16) Tryz.func7 Z Z Z fun cs => ?_
 refine a10 ?_
 refine zac Z ?_ ?_
 ·intro hc1
  try dsimp only at hc1
  refine a4 ?_
  exact zad Tryz.func7 Z Z (⟨zDh int (by rw [pick,zDi hc1]),Z⟩)
 ·intro hc1
  try dsimp only at hc1
  refine a5 ?_
  refine zA6 (z:=x.tmod n) zg0 Z Z Z kQ Z<|a2 ?_
  have hb:=zyE (x:=x) (n:=n) kQ
  refine a6 ?_
  refine zac Z ?_ ?_
  ·intro hc2
   try dsimp only at hc2
   refine a11 ?_
   exact zad Tryz.func7 Z Z (⟨zDh int (by rw [zvh kQ hc2,pick,zDb hc1]),Z⟩)
  ·intro hc2
   try dsimp only at hc2
   refine a6 ?_
   exact zad Tryz.func7 Z Z (⟨zDh int (by rw [zvg kQ kQ,pick,zDb hc1]),Z⟩)
theorem zwk (h:Rd tyB w0 base H A C l) (hl:l.length≤140737488355328) :
  SCalls Tryz.prog 12 [.slice A l.length C] w0 base (H) (fun v H' => ∃ A' C' s',Own tyB 5 A' C' l s'∧v = .slice A' l.length C'∧H' = s'::H):=by
 refine zaa (n:=6) Tryz.func12 Z Z Z fun cs => ?_
 refine a6 ?_
 refine zae (cs:=[]) Z zbO zaF Z Z zg0 Z Z Z ?_
 intro b1
 refine zau tyB (l:=([]:yB)) Z Z kT ?_
 intro s2 o3
 refine a1 ?_
 refine zap (l:=[]) (news:=l) 0 zav Z o3 (Rd.skip 1 h) (by first | omega | (simp only [zC6,zC7,zC8]; omega) | (simp; done) | (simp; omega)) zg0 Z Z Z ?_
 intro A4 C5 s6 o7
 refine a2 ?_
 exact zad Tryz.func12 Z Z (⟨_,_,_,o7,Z,Z⟩)
def PCalls (P:Program) (f:FuncId) (args:List Value) (w0:World) (base:Nat) (H:List Seg) (R:Value→List Seg→Prop) (Q:List PanicEntry→List Seg→Prop):Prop :=
 ∀ w,Sep w0 base w H→Calls P f args.toArray w fun e w' => (∃ v H',e = .returned v∧R v H'∧Sep w0 base w' H')∨∃ ch H',e = .panicked ch∧Q ch H'∧Sep w0 base w' H'
def zAZ (P:Program) (f:FuncId) (cs:List Frame) (w0:World) (base:Nat) (R:Value→List Seg→Prop) (Q:List PanicEntry→List Seg→Prop) (m:Machine):Prop :=
 Left P f cs w0 base R m∨∃ ch H' fr w',m=lone fr cs w'∧fr.fn=f∧fr.leaving P w' (.panicked ch)∧Q ch H'∧Sep w0 base w' H'
theorem PCalls.of_walk {fn:Func}{c:Code}{args:List Value}{Q:List PanicEntry→List Seg→Prop}
  (hf:P.funcs[f]? = some fn) (hb:fn.body=some c) (hn:fn.ntmps=n) (hle:Nat.ble args.length n=true)
  (h:∀ cs,At ⟨P,⟨f,.normal,none⟩,n,cs,zAZ P f cs w0 base R Q,w0,base⟩ [.code c] (zeo args 0) [] H):PCalls P f args w0 base H R Q:=by
 intro w S cs
 have hle:=zDT hle
 have hA:Agree n (args.toArray++Array.replicate (n - args.length) undef) (zeo args 0):=by
  refine ⟨by grind,fun t v hv => ?_⟩
  obtain ⟨_,h2⟩:=zgr hv
  rw [zFp] at h2
  have hlt:=(zDv.1 h2).1
  simp_all [zDu,zEx]
 have henter:Frame.enter P f args.toArray .normal=Ctx.fr ⟨f,.normal,none⟩ (args.toArray++Array.replicate (n - args.length) undef) [] [.code c]:=by
  grind [Frame.enter,Ctx.fr]
 obtain ⟨m',hs,hL⟩:=h cs _ w hA S
 rcases hL with ⟨v,H',fr,w',rfl,h1,h2,h3,h4⟩ | ⟨ch,H',fr,w',rfl,h1,h2,h3,h4⟩
 ·exact ⟨.returned v,w',fr,.inl ⟨v,H',Z,h3,h4⟩,by rw [henter]; exact hs,h1,h2⟩
 ·exact ⟨.panicked ch,w',fr,.inr ⟨ch,H',Z,h3,h4⟩,by rw [henter]; exact hs,h1,h2⟩
theorem zC3 {c:Ctx}{Q:List PanicEntry→List Seg→Prop}{k:List Item} 
  (h:At ⟨P,c,n,cs,Left P f cs w0 base R,w0,base⟩ k E ds H):At ⟨P,c,n,cs,zAZ P f cs w0 base R Q,w0,base⟩ k E ds H:=fun a w ha S => by
 obtain ⟨m',h1,h2⟩:=h a w ha S
 exact ⟨m',h1,.inl h2⟩
theorem zm3 {fn:Func}{Q:List PanicEntry→List Seg→Prop}{ch:List PanicEntry}
  (hf:P.funcs[f]? = some fn) (hQ:Q ch H):Un ⟨P,⟨f,.normal,none⟩,n,cs,zAZ P f cs w0 base R Q,w0,base⟩ (.panicking ch) E [] H:=fun a w k ha S =>
 ⟨_,.refl P _,.inr ⟨ch,H,_,w,rfl,rfl,⟨rfl,rfl,_,hf⟩,hQ,S⟩⟩
theorem zuZ {k:List Item}{dst:Option Tmp}{pos:String}{Q:List PanicEntry→List Seg→Prop}
  {args:List Value}(hb:Body X.P f) (hg:Wd X ops E g) (hd:zcq X.n dst=true) (hx:evs E xs.toList=some args) (hc:PCalls X.P f args X.w0 X.base H R Q)
  (hp:∀ ch H',Q ch H'→Un X (.panicking ch) E ds H') (hk:∀ v H',R v H'→AtL X ops os k (putE E dst v) ds H') :
  AtL X ops (⟨dst,.call ⟨.value (.func f),xs,ts⟩,ty,pos,after,g⟩::os) k E ds H:=by
 intro is hi a w ha S
 cases is with
 | nil => grind
 | cons i is =>
  simp only [zDo,zD2] at hi
  obtain ⟨ho,hi⟩:=hi
  have hρ:∀ x v,ev E x=some v→evA a x=v:=fun x v hx => ha.ev hx
  have hr:(execOp (evA a) ⟨dst,.call ⟨.value (.func f),xs,ts⟩,ty,pos,after,g⟩).run X.P w = .ok (.enter f args.toArray) w:=by
   have hf:evA a (.func f) = .func (.func f) #[] #[]:=hρ _ _ rfl
   grind [execOp,resolve,Deferred.ofValue,zcp,invoke,zcX]
  obtain ⟨e,w',fr,hR,hcomes,_,hleave⟩:=hc w S (X.c.fr a ds (.inRegion ops (i::is)::k)::X.cs)
  have h1:=zc8 (cs:=X.cs) (c:=X.c) (k:=k) (ds:=ds) (is:=is) ho (hg.wanted (o:=⟨dst,.call ⟨.value (.func f),xs,ts⟩,ty,pos,after,g⟩) ha) (.inl rfl) hr
  rcases hR with ⟨v,H',rfl,hR,S'⟩ | ⟨ch,H',rfl,hQ,S'⟩
  ·have h2:=step_leave_returned (cs:=X.cs) (c:=X.c.fr a ds (.inRegion ops (i::is)::k)) hleave
   rw [zbq ho] at h2
   exact .steps (.head h1 (Steps.trans hcomes (.one h2))) (hk v H' hR is hi _ _ (ha.put hd v) S')
  ·have h2:=step_leave_panicked (cs:=X.cs) (c:=X.c.fr a ds (.inRegion ops (i::is)::k)) hleave
   have h3:(X.c.fr a ds (.inRegion ops (i::is)::k)).raise ch = { X.c.fr a ds (.inRegion ops (i::is)::k) with mode:=.panicking ch }:=rfl
   rw [h3] at h2
   exact .steps (.head h1 (Steps.trans hcomes (.one h2))) (hp ch H' hQ a w' _ ha S')
section
variable {X:Pt}{k:List Item}{E:Env}{ds:List Deferred}{H:List Seg}
end
theorem ze6 {op:Op}(T:Ty α) {l:List α}{cs:Array Value}(hd:Does X E H op (fun v H' => ∃ b,v = .slice (some ⟨b,0,none⟩) n n∧H' = [(b,.cells cs e (0,0))]::H)) (hcs:cs=(T.cells l).toArray) (hn:n=l.length) (hle:l.length≤9223372036854775807) :
  Does X E H op (fun v H' => ∃ b s,Own T e (some ⟨b,0,none⟩) n l s∧v = .slice (some ⟨b,0,none⟩) n n∧H' = s::H):=by
 refine hd.mono ?_
 rintro v H' ⟨b,rfl,rfl⟩
 obtain ⟨s,hs,ho⟩:=znC T e b l n _ rfl hn hle
 exact ⟨b,s,ho,Z,by rw [hs,hcs]⟩
section fields
variable {X:Pt}{k:List Item}{E:Env}{ds:List Deferred}{H:List Seg}{ops:Array Oper}{os:List Oper}
  {d:Nat}{ty:TypeId}{pos:String}{after:Array Edge}{g:Option (Nat×Bool)}
end fields
theorem Sep.drewN {w:World}(S:Sep w0 base w H) (n:Nat):Sep w0 base (w.drewN n) H:=S.same rfl rfl rfl rfl
theorem Sep.kept {w w' : World}(S:Sep w0 base w H) (h:Below w.heap.size w w'):Sep w0 base w' H:=by
 refine ⟨⟨h.os.trans S.below.os,h.tape.trans S.below.tape,h.output.trans S.below.output,zEv S.below.size h.size,fun k hk => (h.block k (zFL hk S.base_le)).trans (S.below.block k hk)⟩,S.le,fun p hp => ⟨(S.mem p hp).1,(h.block p.1 (S.lt hp)).trans (S.mem p hp).2⟩,S.nodup⟩
section calls
variable {P:Program}{f:FuncId}{args:List Value}{w0:World}{base:Nat}{H:List Seg}
theorem zfM {v:Value}(h:∀ w,Sep w0 base w H→Calls P f args.toArray w fun e w' => e = .returned v∧∃ n,w' = w.drewN n):SCalls P f args w0 base H (fun u H' => u=v∧H' = H) :=
 fun w S => (h w S).mono fun e w' ⟨he,n,hw⟩ => ⟨v,H,he,⟨Z,Z⟩,hw ▸ S.drewN n⟩
theorem zjR {v:Value}(h:∀ w,Sep w0 base w H→Calls P f args.toArray w fun e w' => e = .returned v∧w' = w):SCalls P f args w0 base H (fun u H' => u=v∧H' = H) :=
 fun w S => (h w S).mono fun e w' ⟨he,hw⟩ => ⟨v,H,he,⟨Z,Z⟩,hw ▸ S⟩
theorem zfN {v:Value}(h:∀ w,Sep w0 base w H→Calls P f args.toArray w fun e w' => e = .returned v∧Below w.heap.size w w'):SCalls P f args w0 base H (fun u H' => u=v∧H' = H) :=
 fun w S => (h w S).mono fun e w' ⟨he,hw⟩ => ⟨v,H,he,⟨Z,Z⟩,S.kept hw⟩
theorem zfO {v:Nat→Value}{o:Obj}(h:∀ w,Sep w0 base w H→Calls P f args.toArray w fun e w' => e = .returned (v w.heap.size)∧∃ n,w' = (w.alloc o).drewN n):SCalls P f args w0 base H (fun u H' => ∃ b,u=v b∧H' = [(b,o)]::H) :=
 fun w S => (h w S).mono fun e w' ⟨he,n,hw⟩ => ⟨_,_,he,⟨w.heap.size,Z,Z⟩,hw ▸ (S.alloc o).drewN n⟩
theorem Sep.cellBelow {w:World}(S:Sep w0 base w H) {b:Nat}{v:Value}(hb:b < base) (h:w0.cell? ⟨b,o,none⟩=some v):w.cell? ⟨b,o,none⟩=some v:=by
 have h2:=S.below.block b hb
 grind [World.cell?]
end calls
section
variable {X:Pt}{k:List Item}{E:Env}{ds:List Deferred}{H:List Seg}{ops:Array Oper}{os:List Oper}
  {d:Nat}{ty:TypeId}{pos:String}{after:Array Edge}{g:Option (Nat×Bool)}
theorem zcV {w:World}{b:Nat}{o:Obj}(h:w.heap[b]? = some o) (hc:zpl o=false):(getObj b).run P w = .ok o w:=by
 cases o <;> first | (cases hc; done) | simp [getObj,Sem.run,h]
theorem zxF {args:List Value}{v:Value}(hx:evs E xs.toList=some args) (hr:∀ w,Sep X.w0 X.base w H→(callFunc f args.toArray).run X.P w = .ok (.value v) w):Does X E H (.call ⟨.value (.func f),xs,ts⟩) (Is v H) :=
 zaq rfl fun dst ty pos after g ρ w hρ S => ⟨v,w,H,by
  have hf:ρ (.func f) = .func (.func f) #[] #[]:=hρ _ _ rfl
  grind [execOp,resolve,Deferred.ofValue,zcp,invoke,Sem.run_bind,Sem.run_pure,Result.andThen_ok],S,rfl,rfl⟩
theorem zuY {args:List Value}{v:Value}(hr:∀ w,Sep X.w0 X.base w H→(callFunc f args.toArray).run X.P w = .ok (.value v) w) (hg:Wd X ops E g) (hd:Nat.blt d X.n=true) (hx:evs E xs.toList=some args) 
  (hk:AtL X ops os k ((d,v)::E) ds H):AtL X ops (⟨some d,.call ⟨.value (.func f),xs,ts⟩,ty,pos,after,g⟩::os) k E ds H:=zai (zxF hx hr) hg hd hk
theorem zor {t e:TypeId}{b:Nat}{cs:Array Value}(i:Nat) (ht:X.P.underlying t=some (.slice e)) (he:X.P.underlying e=some (.int .u8)) (hi:H[i]? = some [(b,.cells cs e (0,0))]) (hcs:cs=(tyB.cells l).toArray) (hn:n=l.length) (hle:l.length≤9223372036854775807)
  (hg:Wd X ops E g) (hd:Nat.blt d X.n=true) (hx:ev E x=some (.slice (some ⟨b,0,none⟩) n n)) 
  (hk:∀ s,Own tyB e (some ⟨b,0,none⟩) n l s→AtL X ops os k ((d,.slice (some ⟨b,0,none⟩) n n)::E) ds (H.set i s)):AtL X ops (⟨some d,.convert t t x,ty,pos,after,g⟩::os) k E ds H:=by
 refine AtL.of (R:=fun v H' => v = .slice (some ⟨b,0,none⟩) n n∧H' = H.set i [(b,.cells cs e (cs.size,cs.size + 1))]) (zaq Z fun dst ty pos after g ρ w hρ S => ?_) hg hd ?_
 ·have hb:=(S.at_ hi (j:=0) rfl).1
  have hw:=S.write hi (j:=0) rfl (.cells cs e (cs.size,cs.size + 1)) (w':=w.freeze ⟨b,cs.size,none⟩ 1) rfl rfl rfl (by simp [World.freeze]) (by simp only [World.freeze]; grind) (fun k hk => by
   simp only [World.freeze]
   grind)
  refine ⟨_,w.freeze ⟨b,cs.size,none⟩ 1,_,?_,hw,Z,Z⟩
  have hsh:w.shape? b=some (e,cs.size):=by grind [World.shape?]
  simp [execOp,hρ _ _ hx,convert,run_underlying ht,run_underlying he,markStringish,hsh]
 ·rintro v H' ⟨rfl,rfl⟩
  refine hk _ ⟨[],by omega,.inr ⟨b,[],[],(cs.size,cs.size + 1),by simp,by grind,?_,by omega⟩⟩
  intro j hj
  grind [Bool.and_eq_false_iff,decide_eq_false_iff_not,zaC]
theorem Cell.below {b:Nat}{v:Value}(hb:b < base) (h:w0.cell? ⟨b,o,none⟩=some v):Cell w0 base H ⟨b,o,none⟩ v:=fun w S => S.cellBelow hb h
theorem zxG {b:Nat}{v:Value}(hb:b < base) (h:w0.cell? ⟨b,j,none⟩=some v):Cell w0 base H (zdt (some ⟨b,0,none⟩) (j * 1)) v:=by
 grind [zdt,zaO,Cell.below]
end
structure Ky (κ:Type) where
  val:κ→Value
  kd:TypeDesc→Bool
  same:∀ d a b,kd d=true→∃ t:Bool,Instr.sameNow d (val a) (val b)=some t∧(t=true↔a=b)
  plain:∀ d,kd d=true→(match d with | .interface _ => false | .array _ _ => false | .struct _ => false | _ => true)=true
def kyI:Ky Int where
  val:=int
  kd d:=match d with | .int _ => true | _ => false
  same d a b h:=by
    cases d <;> first | (cases h; done) | simp_all [Instr.sameNow,int]
  plain d h:=by cases d <;> first | grind | rfl
def kyS:Ky yB where
  val:=str
  kd d:=match d with | .string => true | _ => false
  same d a b h:=by
    cases d <;> first | (cases h; done) | skip
    refine ⟨(ByteArray.mk ⟨a⟩ == ByteArray.mk ⟨b⟩),rfl,?_⟩
    show ((Array.mk a) == (Array.mk b))=true↔a=b
    simp
  plain d h:=by cases d <;> first | grind | rfl
section
variable {κ β:Type}(Q:Ky κ) (tv:β→Value)
def mapE:Nat→List (κ×β)→List MapEntry
 | _,[] => []
 | n,p::r => ⟨Q.val p.1,tv p.2,n⟩::mapE (n + 1) r
def mapO (kvs:List (κ×β)):Obj:=.map (mapE Q tv 0 kvs).toArray kvs.length
end
def atK {κ β:Type} [DecidableEq κ] (a:κ):List (κ×β)→Option β
 | [] => none
 | p::r => if a=p.1 then some p.2 else atK a r
section
variable {κ β:Type} [DecidableEq κ] {Q:Ky κ}{tv:β→Value}
theorem zsJ (n:Nat) (kvs:List (κ×β)) (a:κ) (v:β):mapE Q tv n (kvs++[(a,v)])=mapE Q tv n kvs++[⟨Q.val a,tv v,n + kvs.length⟩]:=by
 induction kvs generalizing n with
 | nil => rfl
 | cons p r ih => grind [mapE,List.length_cons]
theorem zkx {d:TypeDesc}(hd:Q.kd d=true) (a:κ) (kvs:List (κ×β)) (n i:Nat):∃ r,Instr.findNow d (Q.val a) (mapE Q tv n kvs) i=some r∧r.map (·.2)=(atK a kvs).map tv:=by
 induction kvs generalizing n i with
 | nil => exact ⟨none,rfl,rfl⟩
 | cons p r ih =>
  obtain ⟨t,ht,hab⟩:=Q.same d a p.1 hd
  rw [mapE,Instr.findNow]
  simp only [ht]
  cases t with
  | true => exact ⟨_,rfl,by rw [atK,zDi (hab.1 rfl)]; rfl⟩
  | false =>
   simp_all [atK,zDb]
theorem zea {w:World}{t:TypeId}{d:TypeDesc}(hu:P.underlying t=some d) (hd:Q.kd d=true) (a:κ) (e:Bool):(Instr.checkKey e 10000 t (Q.val a)).run P w = .ok () w:=by
 have hp:=Q.plain d hd
 show (Instr.checkKey e (9999 + 1) t (Q.val a)).run P w=_
 unfold Instr.checkKey
 simp only [run_underlying hu,Sem.run_bind,Result.andThen_ok]
 cases d <;> first | simp_all | rfl
end
section
variable {X:Pt}{k:List Item}{E:Env}{ds:List Deferred}{H:List Seg}{ops:Array Oper}{os:List Oper}
  {d:Nat}{ty:TypeId}{pos:String}{after:Array Edge}{g:Option (Nat×Bool)}{κ β:Type} [DecidableEq κ] {Q:Ky κ}{tv:β→Value}
theorem zkH (Q:Ky κ) (tv:β→Value) {t:TypeId}:Does X E H (.makeMap t none) (fun v H' => ∃ b,v = .map (some b)∧H' = [(b,mapO Q tv ([]:List (κ×β)))]::H) :=
 zaq rfl fun dst ty pos after g ρ w hρ S => ⟨.map (some w.heap.size),w.alloc (.map #[] 0),_,by
  simp [execOp,Instr.makeMap,newObj,Sem.run],S.alloc _,w.heap.size,rfl,rfl⟩
theorem zjA (Q:Ky κ) (tv:β→Value) {t:TypeId}(hg:Wd X ops E g) (hd:Nat.blt d X.n=true) (hk:∀ b,AtL X ops os k ((d,.map (some b))::E) ds ([(b,mapO Q tv ([]:List (κ×β)))]::H)) :
  AtL X ops (⟨some d,.makeMap t none,ty,pos,after,g⟩::os) k E ds H :=
 AtL.of (zkH Q tv) hg hd fun _ _ ⟨b,hv,hH⟩ => by subst hv; subst hH; exact hk b
theorem zlf {w:World}{t:TypeId}{b:Nat}{kvs:List (κ×β)}{a:κ}{v:β}(hu:P.underlying t=some (.map kt et)) (hk:P.underlying kt=some dd) (hd:Q.kd dd=true) (hb:w.heap[b]? = some (mapO Q tv kvs)) (hno:atK a kvs=none) :
  (Instr.mapUpdate t (.map (some b)) (Q.val a) (tv v)).run P w = .ok () { w with heap:=w.heap.setIfInBounds b (mapO Q tv (kvs++[(a,v)])) }:=by
 obtain ⟨r,h1,h2⟩:=zkx (tv:=tv) hd a kvs 0 0
 rw [hno] at h2
 obtain rfl:r=none:=by simp_all
 have hg:(getObj b).run P w = .ok (mapO Q tv kvs) w:=zcV hb rfl
 have hs:∀ o,(setObj b o).run P w = .ok () { w with heap:=w.heap.setIfInBounds b o }:=fun o => zbP hb rfl
 simp_all [Instr.mapUpdate,run_underlying,Sem.run_bind,Result.andThen_ok,mapO,zea,Instr.findKey,Sem.run_pure,zsJ,zEi,zFZ,zC6,List.length_singleton]
theorem zuO {t:TypeId}{z:Operand}{b:Nat}{kvs:List (κ×β)}{a:κ}{v:β}{s:Seg}(i j:Nat) (hu:X.P.underlying t=some (.map kt et)) (hk:X.P.underlying kt=some dd) (hd:Q.kd dd=true)
  (hi:H[i]? = some s) (hj:s[j]? = some (b,mapO Q tv kvs)) (hno:atK a kvs=none) (hx:ev E x=some (.map (some b))) (hy:ev E y=some (Q.val a)) (hz:ev E z=some (tv v)) (hH:H.set i (s.set j (b,mapO Q tv (kvs++[(a,v)])))=H'):Does X E H (.insert t x y z) (Is undef H') :=
 zcL Z fun dst ty pos after g ρ w hρ S => by
  have hb:=(S.at_ hi hj).1
  refine ⟨_,H',?_,hH ▸ S.setObj hi hj _,Z,Z⟩
  have:=zlf (P:=X.P) hu hk hd hb hno (v:=v)
  simp_all [execOp]
theorem zaQ {t:TypeId}{z:Operand}{b:Nat}{kvs:List (κ×β)}{a:κ}{v:β}{s:Seg}(i j:Nat) (hu:X.P.underlying t=some (.map kt et)) (hk:X.P.underlying kt=some dd) (hd:Q.kd dd=true) (hg:Wd X ops E g)
  (hi:H[i]? = some s) (hj:s[j]? = some (b,mapO Q tv kvs)) (hno:atK a kvs=none) (hx:ev E x=some (.map (some b))) (hy:ev E y=some (Q.val a)) (hz:ev E z=some (tv v)) (hH:H.set i (s.set j (b,mapO Q tv (kvs++[(a,v)])))=H') (hk2:AtL X ops os k E ds H') :
  AtL X ops (⟨none,.insert t x y z,ty,pos,after,g⟩::os) k E ds H :=
 AtL.of (zuO i j hu hk hd hi hj hno hx hy hz hH) hg rfl fun _ _ ⟨hv,hH⟩ => by subst hv; subst hH; exact hk2
theorem zqw {w:World}{t:TypeId}{b:Nat}{kvs:List (κ×β)}{a:κ}{z:Value}(ok:Bool) (hu:P.underlying t=some (.map kt et)) (hk:P.underlying kt=some dd) (hd:Q.kd dd=true) (hb:w.heap[b]? = some (mapO Q tv kvs)) (hz:zbr P et=some z) :
  (Instr.lookup t (.map (some b)) (Q.val a) ok).run P w = .ok (if ok then .tuple #[((atK a kvs).map tv).getD z,.bool (atK a kvs).isSome] else ((atK a kvs).map tv).getD z) w:=by
 obtain ⟨r,h1,h2⟩:=zkx (tv:=tv) hd a kvs 0 0
 have hg:(getObj b).run P w = .ok (mapO Q tv kvs) w:=zcV hb rfl
 unfold Instr.lookup
 simp only [run_underlying hu,Sem.run_bind,Result.andThen_ok,hg,mapO,Sem.run_pure,zea hk hd,Instr.findKey,run_underlying hk,h1]
 cases r with
 | none =>
  have h3:atK a kvs=none:=by cases h:atK a kvs with | none => rfl | some q => grind
  simp_all [zfj,Sem.run_bind,Result.andThen_ok,Sem.run_pure,zE8,Option.getD_none,zFN]
 | some q =>
  obtain ⟨q1,q2⟩:=q
  cases h3:atK a kvs with
  | none => grind
  | some u =>
   simp_all
theorem zuN {t:TypeId}{b:Nat}{kvs:List (κ×β)}{a:κ}{z:Value}{s:Seg}{v:Value}(ok:Bool) (i j:Nat) (hu:X.P.underlying t=some (.map kt et)) (hk:X.P.underlying kt=some dd) (hd:Q.kd dd=true) (hz:zbr X.P et=some z)
  (hi:H[i]? = some s) (hj:s[j]? = some (b,mapO Q tv kvs)) (hx:ev E x=some (.map (some b))) (hy:ev E y=some (Q.val a)) (hv:(if ok then .tuple #[((atK a kvs).map tv).getD z,.bool (atK a kvs).isSome] else ((atK a kvs).map tv).getD z)=v):Does X E H (.lookup t x y ok) (Is v H) :=
 zaq rfl fun dst ty pos after g ρ w hρ S => ⟨v,w,H,by
  have:=zqw (P:=X.P) (a:=a) ok hu hk hd (S.at_ hi hj).1 hz
  simp_all [execOp],S,rfl,rfl⟩
theorem zkL {t:TypeId}{b:Nat}{kvs:List (κ×β)}{a:κ}{z:Value}{s:Seg}{v:Value}(i j:Nat) (hu:X.P.underlying t=some (.map kt et)) (hk:X.P.underlying kt=some dd) (hd:Q.kd dd=true) (hz:zbr X.P et=some z) (hg:Wd X ops E g) (hd2:Nat.blt d X.n=true)
  (hi:H[i]? = some s) (hj:s[j]? = some (b,mapO Q tv kvs)) (hx:ev E x=some (.map (some b))) (hy:ev E y=some (Q.val a)) (hv:(if ok then .tuple #[((atK a kvs).map tv).getD z,.bool (atK a kvs).isSome] else ((atK a kvs).map tv).getD z)=v) (hk2:AtL X ops os k ((d,v)::E) ds H) :
  AtL X ops (⟨some d,.lookup t x y ok,ty,pos,after,g⟩::os) k E ds H:=zai (zuN ok i j hu hk hd hz hi hj hx hy hv) hg hd2 hk2
end
def flL (ls:List yB):yB:=ls.flatMap fun l => UInt8.ofNat l.length::l
def nmL (ls:List yB):yB:=flL ls++[0]
def LsOk (ls:List yB):Prop:=∀ l ∈ ls,1≤l.length∧l.length≤63
def NmOk (n:yB):Prop:=∃ ls,LsOk ls∧n=nmL ls∧n.length≤255
theorem zir (l:yB) (ls:List yB):flL (l::ls)=UInt8.ofNat l.length::(l++flL ls):=by simp [flL]
theorem zlt (a b:List yB):flL (a++b)=flL a++flL b:=by simp [flL]
theorem zf7 (a:List yB) (l:yB):flL (a++[l])=flL a++(UInt8.ofNat l.length::l):=by simp [flL]
theorem zst:nmL []=[0]:=rfl
theorem zcS (l:yB) (ls:List yB):nmL (l::ls)=UInt8.ofNat l.length::(l++nmL ls):=by simp [nmL,zir]
theorem zsu (a b:List yB):nmL (a++b)=flL a++nmL b:=by simp [nmL,zlt]
theorem zi0 (ls:List yB):0 < (nmL ls).length:=by simp [nmL]
theorem LsOk.nil:LsOk []:=fun _ h => by cases h
theorem LsOk.snoc (h:LsOk a) (hl:1≤l.length∧l.length≤63):LsOk (a++[l]):=fun x hx => by
 rcases zDt.1 hx with hx | hx
 ·exact h x hx
 grind
theorem LsOk.app {b:List yB}(h:LsOk a) (hb:LsOk b):LsOk (a++b):=fun x hx => (zDt.1 hx).elim (h x) (hb x)
theorem LsOk.left {b:List yB}(h:LsOk (a++b)):LsOk a:=fun x hx => h x (zEp _ hx)
theorem LsOk.right {b:List yB}(h:LsOk (a++b)):LsOk b:=fun x hx => h x (List.mem_append_right _ hx)
theorem zeO (h:n≤255):(UInt8.ofNat n).toNat=n:=by
 grind [UInt8.toNat_ofNat']
theorem znH (h:l.length≤63):((nmL (l::ls)).getD 0 0).toNat=l.length:=by
 grind [zcS,UInt8.ofNat,zeO]
theorem zx8 :(nmL (l::ls)).length=1 + l.length + (nmL ls).length:=by
 grind [zcS]
theorem zzn :subl (nmL (l::ls)) (1 + l.length) (nmL (l::ls)).length=nmL ls:=by
 grind [zbx,zcS,List.drop_left]
theorem zzk {y:yB}(hl:0 < y.length) (h63:(y.getD 0 0).toNat≤63) (hlt:(y.getD 0 0).toNat < y.length):∃ l,l=subl y 1 (1 + (y.getD 0 0).toNat)∧l.length=(y.getD 0 0).toNat∧y=UInt8.ofNat l.length::(l++subl y (1 + (y.getD 0 0).toNat) y.length):=by
 cases y with
 | nil => cases hl
 | cons c r =>
  have hc:((c::r).getD 0 0)=c:=rfl
  rw [hc] at h63 hlt ⊢
  have hr:c.toNat≤r.length:=by grind
  have e:(subl (c::r) 1 (1 + c.toNat))=r.take c.toNat:=by simp [subl]
  refine ⟨_,Z,by grind,?_⟩
  grind [zbx,List.length_take,Nat.min_eq_left,List.take_append_drop,UInt8.ofNat_toNat]
theorem zsq (h:LsOk ls) (hne:nmL ls≠[0]):∃ l r,ls=l::r∧1≤l.length∧l.length≤63:=by
 cases ls with
 | nil => exact absurd rfl hne
 | cons l r => exact ⟨l,r,rfl,h l (zDH ..)⟩
theorem zzm {y:yB}{pre:List yB}(hp:1≤l.length∧l.length≤63) (h:∃ ls,LsOk ls∧UInt8.ofNat l.length::(l++y)=nmL ls):∃ ls,LsOk ls∧y=nmL ls:=by
 obtain ⟨ls,h1,h2⟩:=h
 have hne:nmL ls≠[0]:=by rw [← h2]; intro h9; have:=zDh List.length h9; grind
 obtain ⟨m,r,rfl,h3,h4⟩:=zsq h1 hne
 rw [zcS] at h2
 injection h2 with h5 h6
 have h7:l.length=m.length:=by have:=zDh UInt8.toNat h5; grind [zeO]
 have h8:=zGi h6 h7
 exact ⟨r,fun x hx => h1 x (zDF _ hx),h8.2⟩
theorem zzo {y:yB}{pre:List yB}(hp:LsOk pre) (h:∃ ls,LsOk ls∧flL pre++y=nmL ls):∃ ls,LsOk ls∧y=nmL ls:=by
 induction pre with
 | nil => exact h
 | cons l pre ih =>
  refine ih (fun x hx => hp x (zDF _ hx)) ?_
  rw [zir,zDr,zDg] at h
  exact zzm (pre:=[]) (hp l (zDH ..)) h
theorem zo6 {y:yB}(hne:y≠[0]) (hb:y.length=0∨(y.getD 0 0).toNat=0∨63 < (y.getD 0 0).toNat∨y.length≤(y.getD 0 0).toNat):¬ ∃ ls,LsOk ls∧y=nmL ls:=by
 rintro ⟨ls,h1,rfl⟩
 obtain ⟨l,r,rfl,h3,h4⟩:=zsq h1 hne
 grind [znH,zx8,zi0]
def Stands (b:yB) (i:Nat) (s:yB):Prop:=subl b i (i + s.length)=s∧i + s.length≤b.length
theorem zeA (a s c:yB):Stands (a++s++c) a.length s:=by
 refine ⟨?_,by simp⟩
 simp [subl,zDg]
theorem zeC (a s:yB):Stands (a++s) a.length s:=by
 have:=zeA a s []
 grind
theorem Stands.app (h:Stands b i s) (c:yB):Stands (b++c) i s:=by
 refine ⟨?_,by have:=h.2; grind⟩
 rw [subl,zDS (by have:=h.2; omega),zD0 (by rw [zDK]; have:=h.2; omega)]
 exact h.1
theorem zeB :Stands b i s↔∃ a c,a.length=i∧b=a++s++c:=by
 constructor
 ·rintro ⟨h1,h2⟩
  refine ⟨b.take i,b.drop (i + s.length),by grind,?_⟩
  have e:b.drop (i + s.length)=(b.drop i).drop s.length:=by simp_all
  grind [subl,List.append_assoc,List.take_append_drop]
 ·rintro ⟨a,c,rfl,rfl⟩
  grind [zeA]
theorem Stands.left {t:yB}(h:Stands b i (s++t)):Stands b i s:=by
 obtain ⟨a,c,h1,rfl⟩:=zeB.1 h
 grind [zeB]
theorem Stands.right {t:yB}(h:Stands b i (s++t)):Stands b (i + s.length) t:=by
 obtain ⟨a,c,h1,rfl⟩:=zeB.1 h
 grind [zeB]
theorem Stands.getD (h:Stands b i s) (hj:j < s.length):b.getD (i + j) 0=s.getD j 0:=by
 obtain ⟨a,c,rfl,rfl⟩:=zeB.1 h
 grind
def be2 (n:Int):yB:=[UInt8.ofInt (n / 256),UInt8.ofInt n]
def be4 (n:Int):yB:=[UInt8.ofInt (n / 16777216),UInt8.ofInt (n / 65536),UInt8.ofInt (n / 256),UInt8.ofInt n]
theorem zam (n:Int):(be2 n).length=2:=rfl
theorem za3 (n:Int):(be4 n).length=4:=rfl
inductive Rn (b:yB):Nat→Nat→yB→Nat→Nat→Prop
  | zero {part i:Nat}(h:Stands b i [0]):Rn b part i [0] (i + 1) 0
  | lab {part i nx k:Nat}{l n:yB}(hl:1≤l.length∧l.length≤63) (hs:Stands b i (UInt8.ofNat l.length::l)) (h:Rn b part (i + (1 + l.length)) n nx k):Rn b part i (UInt8.ofNat l.length::(l++n)) nx (k + 1)
  | ptr {part i p nx k:Nat}{n:yB}(hp:p < part) (h14:p < 16384) (hs:Stands b i (be2 ((49152 + p:Nat):Int))) (h:Rn b p p n nx k):Rn b part i n (i + 2) (k + 1)
theorem Rn.inv {part:Nat}{n:yB}(h:Rn b part i n nx k):(n=[0]∧nx=i + 1∧Stands b i [0]) ∨
  (∃ l r k',k=k' + 1∧n=UInt8.ofNat l.length::(l++r)∧(1≤l.length∧l.length≤63)∧Stands b i (UInt8.ofNat l.length::l)∧Rn b part (i + (1 + l.length)) r nx k') ∨
  (∃ p nx' k',k=k' + 1∧nx=i + 2∧p < part∧p < 16384∧Stands b i (be2 ((49152 + p:Nat):Int))∧Rn b p p n nx' k'):=by
 cases h with
 | zero h => grind
 | lab hl hs h => grind
 | ptr hp h14 hs h => grind
theorem Rn.app {part:Nat}{n:yB}(h:Rn b part i n nx k) (c:yB):Rn (b++c) part i n nx k:=by
 induction h with
 | zero h => exact .zero (h.app c)
 | lab hl hs _ ih => exact .lab hl (hs.app c) ih
 | ptr hp h14 hs _ ih => exact .ptr hp h14 (hs.app c) ih
theorem Rn.part {part:Nat}{n:yB}(h:Rn b part i n nx k) {q:Nat}(hq:part≤q):Rn b q i n nx k:=by
 induction h generalizing q with
 | zero h => exact .zero h
 | lab hl hs _ ih => exact .lab hl hs (ih hq)
 | ptr hp h14 hs h _ => exact .ptr kQ h14 hs h
theorem Rn.flat {b:yB}{part nx k:Nat}{n:yB}:∀ (ls:List yB) {i:Nat},LsOk ls→Stands b i (flL ls)→Rn b part (i + (flL ls).length) n nx k→∃ k',Rn b part i (flL ls++n) nx k'
 | [],i,_,_,h => ⟨k,h⟩
 | l::ls,i,ho,hs,h => by
  rw [zir] at hs h ⊢
  have hs2:Stands b i ((UInt8.ofNat l.length::l)++flL ls):=by grind
  have hr:=hs2.right
  have el:(UInt8.ofNat l.length::l).length=1 + l.length:=by grind
  rw [el] at hr
  obtain ⟨k',hk⟩:=Rn.flat (n:=n) (nx:=nx) (k:=k) ls (i:=i + (1 + l.length)) (fun x hx => ho x (zDF _ hx)) hr (by
   have e:(UInt8.ofNat l.length::(l++flL ls)).length=(1 + l.length) + (flL ls).length:=by grind
   rw [e] at h
   rwa [zD3])
  refine ⟨k' + 1,?_⟩
  have:=Rn.lab (ho l (zDH ..)) hs2.left hk
  grind
def PkE (B:β→yB) (n:Nat) (q:yB) (u:Int):Prop:=0≤u∧u < 16384∧u.toNat < n∧∀ z,∃ nx k,Rn (B z) u.toNat u.toNat q nx k
def PkOk (B:β→yB) (n:Nat) (T:List (yB×Int×Nat)):Prop:=∀ e ∈ T,PkE B n e.1 e.2.1
theorem PkOk.app {B:β→yB}(h:PkOk B n T) (c:yB):PkOk (fun z => B z++c) (n + c.length) T:=fun e he => by
 obtain ⟨h1,h2,h3,h4⟩:=h e he
 exact ⟨h1,h2,by omega,fun z => by obtain ⟨nx,k,h5⟩:=h4 z; exact ⟨nx,k,h5.app c⟩⟩
theorem PkOk.nil (B:β→yB) (n:Nat):PkOk B n []:=fun _ h => by cases h
theorem PkOk.at_ {B:β→yB}(h:PkOk B n T) (z:β) (hm:n=m):PkOk (fun _:Unit => B z) m T:=fun e he => by
 subst hm
 obtain ⟨h1,h2,h3,h4⟩:=h e he
 exact ⟨h1,h2,h3,fun _ => h4 z⟩
theorem PkOk.any (h:PkOk (fun _:Unit => b) n T) (c:β→yB) (hm:n≤m):PkOk (fun z => b++c z) m T:=fun e he => by
 obtain ⟨h1,h2,h3,h4⟩:=h e he
 exact ⟨h1,h2,by omega,fun z => by obtain ⟨nx,k,h5⟩:=h4 (); exact ⟨nx,k,h5.app _⟩⟩
def FrOk (at_:Nat) (d r:List yB) (F:List (yB×Int×Nat)):Prop:=∀ e ∈ F,∃ d1 d2,d=d1++d2∧e.1=flL d2++nmL r∧e.2.1=((at_ + (flL d1).length:Nat):Int)∧e.2.1 < 16384
theorem FrOk.nil (at_:Nat) (d r:List yB):FrOk at_ d r []:=fun _ h => by cases h
theorem FrOk.step {at_:Nat}{d r:List yB}(h:FrOk at_ d (l::r) F):FrOk at_ (d++[l]) r F:=fun e he => by
 obtain ⟨d1,d2,rfl,h2,h3,h4⟩:=h e he
 grind [zcS,zf7]
theorem zo8 {d r:List yB}(hd:LsOk d) (hF:FrOk b.length d r F) (hw:0 < w.length)
  (h:∀ q,b.length≤q→Rn (b++(flL d++w)) q (b.length + (flL d).length) (nmL r) nx k):(∃ k',Rn (b++(flL d++w)) b.length b.length (nmL (d++r)) nx k')∧∀ e ∈ F,0≤e.2.1∧e.2.1 < 16384∧e.2.1.toNat < b.length + (flL d++w).length∧∃ nx k,Rn (b++(flL d++w)) e.2.1.toNat e.2.1.toNat e.1 nx k:=by
 have hs:Stands (b++(flL d++w)) b.length (flL d):=by
  grind [List.append_assoc,zeA,flL]
 constructor
 ·rw [zsu]
  exact Rn.flat d hd hs (h _ (zDe _))
 ·intro e he
  obtain ⟨d1,d2,rfl,h2,h3,h4⟩:=hF e he
  rw [zlt] at hs h
  have hr:=hs.right
  have hlen:b.length + (flL (d1++d2)++w).length=b.length + (flL d1).length + (flL d2).length + w.length:=by grind [zlt]
  have e5:e.2.1.toNat=b.length + (flL d1).length:=by omega
  rw [e5,h2]
  refine ⟨by omega,h4,by omega,nx,?_⟩
  have h9:=h (b.length + (flL d1).length) kQ
  rw [zC6,← zD3] at h9
  have:=Rn.flat d2 hd.right hr h9
  rwa [zlt]
theorem y_in {lp:Nat}{args:List Value}{s:Seg}{Hc T:List Seg}{B:Bool→List Seg→Prop}
  (h:∀ T',YCalls P lp args w0 base (Hc++T') (fun v H' => ∃ (b:Bool) (Hc' : List Seg),v = .bool b∧H' = Hc'++T'∧B b Hc')):YCalls P lp args w0 base (s::(Hc++T)) (fun v H' => ∃ (b:Bool) (Hc' : List Seg),v = .bool b∧H' = s::(Hc'++T)∧B b Hc') :=
 (YCalls.perm (zsi s Hc T) (h (s::T))).permR fun v H1 ⟨b,Hc',e,eH,hA⟩ => ⟨_,eH ▸ (zsi s Hc' T).symm,b,Hc',e,rfl,hA⟩
theorem zwG (h:LsOk ls):2 * ls.length≤(flL ls).length:=by
 induction ls with
 | nil => simp
 | cons l r ih =>
  have h1:=h l (zDH ..)
  have h2:=ih fun x hx => h x (zDF _ hx)
  rw [zir]
  grind
theorem zAU {T Hc:List Seg}{lp bn:Nat}{n:yB}{J:List yB→List Seg→Prop}{K:List Seg→Prop}(hn:n.length≤4398046511104)
  (hY:∀ u acc Hc,(1≤u.length∧u.length≤63)→acc.length < 2199023255553→J acc Hc→∀ T',YCalls Tryz.prog lp [str u,.bool true] w0 base (Hc++T') (fun v H' => ∃ (b:Bool) (Hc' : List Seg),v = .bool b∧H' = Hc'++T'∧(b=true∧J (acc++[u]) Hc')))
  (hF:∀ acc Hc,J acc Hc→∀ T',YCalls Tryz.prog lp [str [],.bool false] w0 base (Hc++T') (fun v H' => ∃ (b:Bool) (Hc' : List Seg),v = .bool b∧H' = Hc'++T'∧(b=false∧K Hc')))
  (h0:J [] Hc) :
  SCalls Tryz.prog 225 [.func (.yield lp) #[] #[],pB bn] w0 base ([(bn,.cells #[str n] 9 (0,0))]::(Hc++T)) (fun v H' => ∃ (acc:List yB) (y:yB) (Hc' : List Seg),LsOk acc∧n=flL acc++y∧((y=[0]∧J acc Hc')∨((¬ ∃ ls,LsOk ls∧y=nmL ls)∧K Hc'))∧v = .tuple #[]∧H' = [(bn,.cells #[str y] 9 (0,0))]::(Hc'++T)):=by
 refine zaa (n:=43) Tryz.func225 Z Z Z fun cs => ?_
 refine a1 ?_
 refine zcd (fun (y:yB) (acc:List yB) (Hc2:List Seg) => [(0,.func (.yield lp) #[] #[]),(1,pB bn)]) (fun y acc Hc2 => [(bn,.cells #[str y] 9 (0,0))]::(Hc2++T)) (fun y acc Hc2 => n=flL acc++y∧LsOk acc∧J acc Hc2) (fun y acc Hc2 => y.length) n [] Hc (⟨Z,LsOk.nil,h0⟩) ⟨Z,Z,trivial⟩ Z ?_
 rintro y acc Hc2 ⟨hsp,hls,hJ⟩ ihL1
 have hyn:(flL acc).length + y.length=n.length:=by rw [hsp,zC6]
 have hacc:acc.length < 2199023255553:=by have:=zwG hls; omega
 refine a5 ?_
 refine zfb (a:=y) (b:=[0]) zg0 Z Z Z<|a1 ?_
 refine zac Z ?_ ?_
 ·intro hc1
  try dsimp only at hc1
  exact zad Tryz.func225 Z Z (⟨acc,[0],Hc2,hls,(by rw [hsp,hc1]),.inl ⟨Z,hJ⟩,Z,(by rw [hc1])⟩)
 ·intro hc1
  try dsimp only at hc1
  refine a3 ?_
  rcases zEO y.length with hl0 | hl0
  ·refine zaN (es:=[]) (pv:=[(0,str y),(1,vV (y.length:Int)),(2,.bool true),(3,.bool true),(4,undef),(5,undef),(6,undef),(7,.bool true),(8,.bool true),(9,undef),(10,undef),(11,undef),(12,.bool true),(13,.bool true),(14,undef),(15,undef),(16,undef),(17,undef),(18,undef),(19,undef),(20,.bool true)]) zaz kW kW kW ?_
   refine ⟨zjz<|⟨zpr Z Z Z (zhB (l:=y) Z Z),⟨zpr Z Z Z (zc0 (zhY Z Z) (zDI kQ)),zjz<|⟨.inr ⟨_,Z,Z,.inr ⟨⟨_,_,_,Z,Z,Z,Z⟩,Z⟩⟩,⟨.inr ⟨_,Z,Z,.inr ⟨⟨_,_,_,Z,Z,Z,Z⟩,Z⟩⟩,⟨.inr ⟨_,Z,Z,.inr ⟨⟨_,_,_,Z,Z,Z,Z⟩,Z⟩⟩,⟨zpr Z Z Z (zef Z Z),zjz<|⟨.inr ⟨_,Z,Z,.inr ⟨⟨_,_,_,Z,Z,Z,Z⟩,Z⟩⟩,⟨.inr ⟨_,Z,Z,.inr ⟨⟨_,_,_,Z,Z,Z,Z⟩,Z⟩⟩,⟨.inr ⟨_,Z,Z,.inr ⟨⟨_,_,_,Z,Z,Z,Z⟩,Z⟩⟩,⟨zpr Z Z Z (zef Z Z),zjz<|⟨.inr ⟨_,Z,Z,.inr ⟨⟨_,_,_,Z,Z,Z,Z⟩,Z⟩⟩,⟨.inr ⟨_,Z,Z,.inr ⟨⟨_,_,_,Z,Z,Z,Z⟩,Z⟩⟩,⟨.inr ⟨_,Z,Z,.inr ⟨⟨_,_,_,Z,Z,Z,Z⟩,Z⟩⟩,⟨.inr ⟨_,Z,Z,.inr ⟨⟨_,_,_,Z,Z,Z,Z⟩,Z⟩⟩,⟨.inr ⟨_,Z,Z,.inr ⟨⟨_,_,_,Z,Z,Z,Z⟩,Z⟩⟩,⟨.inr ⟨_,Z,Z,.inr ⟨⟨_,_,_,Z,Z,Z,Z⟩,Z⟩⟩,⟨zpr Z Z Z (zef Z Z),trivial⟩⟩⟩⟩⟩⟩⟩⟩⟩⟩⟩⟩⟩⟩⟩⟩⟩,by kernel_rfl,?_⟩
   refine At.mono (E':=[(0,.func (.yield lp) #[] #[]),(1,pB bn),(25,.bool true)]) ⟨Z,Z,Z,trivial⟩<|a4 ?_
   refine zfR zg0 Z Z Z (y_in (fun T' => hF acc Hc2 hJ T')) ?_
   rintro _ _ ⟨_,Hc3,rfl,rfl,rfl,hK3⟩
   refine a1 ?_
   exact zad Tryz.func225 Z Z (⟨acc,y,Hc3,hls,hsp,.inr ⟨zo6 hc1 (.inl hl0),hK3⟩,Z,Z⟩)
  ·have hu0:=(y.getD 0 0).toNat_lt
   rcases zGa ((y.getD 0 0).toNat=0) with hz | hz
   ·refine zaN (es:=[]) (pv:=[(0,str y),(1,vV (y.length:Int)),(2,.bool false),(3,.bool false),(4,str y),(5,.int .u8 ((y.getD 0 0).toNat:Int)),(6,.bool true),(7,.bool true),(8,.bool true),(9,undef),(10,undef),(11,undef),(12,.bool true),(13,.bool true),(14,undef),(15,undef),(16,undef),(17,undef),(18,undef),(19,undef),(20,.bool true)]) zaz kW kW kW ?_
    refine ⟨zjz<|⟨zpr Z Z Z (zhB (l:=y) Z Z),⟨zpr Z Z Z (zc0 (zhY Z Z) (zDl kQ)),zjz<|⟨zpr Z Z ⟨_,_,_,Z,Z,Z,Z⟩ (zdV zbz Z (Cell.own 0 0 Z Z Z)),⟨zpr Z Z ⟨_,_,_,Z,Z,Z,Z⟩ (zcv (l:=y) 0 Z kQ Z Z Z),⟨zpr Z Z ⟨_,_,_,Z,Z,Z,Z⟩ (zc0 (zhY Z Z) (zDI kQ)),⟨zpr Z Z Z (zeg Z Z),zjz<|⟨.inr ⟨_,Z,Z,.inr ⟨⟨_,_,_,Z,Z,Z,Z⟩,Z⟩⟩,⟨.inr ⟨_,Z,Z,.inr ⟨⟨_,_,_,Z,Z,Z,Z⟩,Z⟩⟩,⟨.inr ⟨_,Z,Z,.inr ⟨⟨_,_,_,Z,Z,Z,Z⟩,Z⟩⟩,⟨zpr Z Z Z (zef Z Z),zjz<|⟨.inr ⟨_,Z,Z,.inr ⟨⟨_,_,_,Z,Z,Z,Z⟩,Z⟩⟩,⟨.inr ⟨_,Z,Z,.inr ⟨⟨_,_,_,Z,Z,Z,Z⟩,Z⟩⟩,⟨.inr ⟨_,Z,Z,.inr ⟨⟨_,_,_,Z,Z,Z,Z⟩,Z⟩⟩,⟨.inr ⟨_,Z,Z,.inr ⟨⟨_,_,_,Z,Z,Z,Z⟩,Z⟩⟩,⟨.inr ⟨_,Z,Z,.inr ⟨⟨_,_,_,Z,Z,Z,Z⟩,Z⟩⟩,⟨.inr ⟨_,Z,Z,.inr ⟨⟨_,_,_,Z,Z,Z,Z⟩,Z⟩⟩,⟨zpr Z Z Z (zef Z Z),trivial⟩⟩⟩⟩⟩⟩⟩⟩⟩⟩⟩⟩⟩⟩⟩⟩⟩,by kernel_rfl,?_⟩
    refine At.mono (E':=[(0,.func (.yield lp) #[] #[]),(1,pB bn),(25,.bool true)]) ⟨Z,Z,Z,trivial⟩<|a4 ?_
    refine zfR zg0 Z Z Z (y_in (fun T' => hF acc Hc2 hJ T')) ?_
    rintro _ _ ⟨_,Hc3,rfl,rfl,rfl,hK3⟩
    refine a1 ?_
    exact zad Tryz.func225 Z Z (⟨acc,y,Hc3,hls,hsp,.inr ⟨zo6 hc1 (.inr (.inl hz)),hK3⟩,Z,Z⟩)
   ·rcases zGa (63 < (y.getD 0 0).toNat) with hm | hm
    ·refine zaN (es:=[]) (pv:=[(0,str y),(1,vV (y.length:Int)),(2,.bool false),(3,.bool false),(4,str y),(5,.int .u8 ((y.getD 0 0).toNat:Int)),(6,.bool false),(7,.bool false),(8,.bool false),(9,str y),(10,.int .u8 ((y.getD 0 0).toNat:Int)),(11,.bool true),(12,.bool true),(13,.bool true),(14,undef),(15,undef),(16,undef),(17,undef),(18,undef),(19,undef),(20,.bool true)]) zaz kW kW kW ?_
     refine ⟨zjz<|⟨zpr Z Z Z (zhB (l:=y) Z Z),⟨zpr Z Z Z (zc0 (zhY Z Z) (zDl kQ)),zjz<|⟨zpr Z Z ⟨_,_,_,Z,Z,Z,Z⟩ (zdV zbz Z (Cell.own 0 0 Z Z Z)),⟨zpr Z Z ⟨_,_,_,Z,Z,Z,Z⟩ (zcv (l:=y) 0 Z kQ Z Z Z),⟨zpr Z Z ⟨_,_,_,Z,Z,Z,Z⟩ (zc0 (zhY Z Z) (zDl kQ)),⟨zpr Z Z Z (zeg Z Z),zjz<|⟨zpr Z Z ⟨_,_,_,Z,Z,Z,Z⟩ (zdV zbz Z (Cell.own 0 0 Z Z Z)),⟨zpr Z Z ⟨_,_,_,Z,Z,Z,Z⟩ (zcv (l:=y) 0 Z kQ Z Z Z),⟨zpr Z Z ⟨_,_,_,Z,Z,Z,Z⟩ (zc0 (zuQ Z Z) (zDI kQ)),⟨zpr Z Z Z (zeg Z Z),zjz<|⟨.inr ⟨_,Z,Z,.inr ⟨⟨_,_,_,Z,Z,Z,Z⟩,Z⟩⟩,⟨.inr ⟨_,Z,Z,.inr ⟨⟨_,_,_,Z,Z,Z,Z⟩,Z⟩⟩,⟨.inr ⟨_,Z,Z,.inr ⟨⟨_,_,_,Z,Z,Z,Z⟩,Z⟩⟩,⟨.inr ⟨_,Z,Z,.inr ⟨⟨_,_,_,Z,Z,Z,Z⟩,Z⟩⟩,⟨.inr ⟨_,Z,Z,.inr ⟨⟨_,_,_,Z,Z,Z,Z⟩,Z⟩⟩,⟨.inr ⟨_,Z,Z,.inr ⟨⟨_,_,_,Z,Z,Z,Z⟩,Z⟩⟩,⟨zpr Z Z Z (zef Z Z),trivial⟩⟩⟩⟩⟩⟩⟩⟩⟩⟩⟩⟩⟩⟩⟩⟩⟩,by kernel_rfl,?_⟩
     refine At.mono (E':=[(0,.func (.yield lp) #[] #[]),(1,pB bn),(25,.bool true)]) ⟨Z,Z,Z,trivial⟩<|a4 ?_
     refine zfR zg0 Z Z Z (y_in (fun T' => hF acc Hc2 hJ T')) ?_
     rintro _ _ ⟨_,Hc3,rfl,rfl,rfl,hK3⟩
     refine a1 ?_
     exact zad Tryz.func225 Z Z (⟨acc,y,Hc3,hls,hsp,.inr ⟨zo6 hc1 (.inr (.inr (.inl hm))),hK3⟩,Z,Z⟩)
    ·have hB1:=zeh (y.getD 0 0)
     refine zaN (es:=[]) (pv:=[(0,str y),(1,vV (y.length:Int)),(2,.bool false),(3,.bool false),(4,str y),(5,.int .u8 ((y.getD 0 0).toNat:Int)),(6,.bool false),(7,.bool false),(8,.bool false),(9,str y),(10,.int .u8 ((y.getD 0 0).toNat:Int)),(11,.bool false),(12,.bool false),(13,.bool false),(14,str y),(15,.int .u8 ((y.getD 0 0).toNat:Int)),(16,vV ((y.getD 0 0).toNat:Int)),(17,str y),(18,vV (y.length:Int)),(19,.bool (decide ((y.length:Int)≤((y.getD 0 0).toNat:Int)))),(20,.bool (decide ((y.length:Int)≤((y.getD 0 0).toNat:Int))))]) zaz kW kW kW ?_
     refine ⟨zjz<|⟨zpr Z Z Z (zhB (l:=y) Z Z),⟨zpr Z Z Z (zc0 (zhY Z Z) (zDl kQ)),zjz<|⟨zpr Z Z ⟨_,_,_,Z,Z,Z,Z⟩ (zdV zbz Z (Cell.own 0 0 Z Z Z)),⟨zpr Z Z ⟨_,_,_,Z,Z,Z,Z⟩ (zcv (l:=y) 0 Z kQ Z Z Z),⟨zpr Z Z ⟨_,_,_,Z,Z,Z,Z⟩ (zc0 (zhY Z Z) (zDl kQ)),⟨zpr Z Z Z (zeg Z Z),zjz<|⟨zpr Z Z ⟨_,_,_,Z,Z,Z,Z⟩ (zdV zbz Z (Cell.own 0 0 Z Z Z)),⟨zpr Z Z ⟨_,_,_,Z,Z,Z,Z⟩ (zcv (l:=y) 0 Z kQ Z Z Z),⟨zpr Z Z ⟨_,_,_,Z,Z,Z,Z⟩ (zc0 (zuQ Z Z) (zDl kQ)),⟨zpr Z Z Z (zeg Z Z),zjz<|⟨zpr Z Z ⟨_,_,_,Z,Z,Z,Z⟩ (zdV zbz Z (Cell.own 0 0 Z Z Z)),⟨zpr Z Z ⟨_,_,_,Z,Z,Z,Z⟩ (zcv (l:=y) 0 Z kQ Z Z Z),⟨zpr Z Z ⟨_,_,_,Z,Z,Z,Z⟩ (zda (z:=((y.getD 0 0).toNat:Int)) Z Z Z (zcG _)),⟨zpr Z Z ⟨_,_,_,Z,Z,Z,Z⟩ (zdV zbz Z (Cell.own 0 0 Z Z Z)),⟨zpr Z Z ⟨_,_,_,Z,Z,Z,Z⟩ (zhB (l:=y) Z Z),⟨zpr Z Z ⟨_,_,_,Z,Z,Z,Z⟩ (zyu Z Z),⟨zpr Z Z Z (zeg Z Z),trivial⟩⟩⟩⟩⟩⟩⟩⟩⟩⟩⟩⟩⟩⟩⟩⟩⟩,by kernel_rfl,?_⟩
     refine At.mono (E':=[(0,.func (.yield lp) #[] #[]),(1,pB bn),(25,.bool (decide ((y.length:Int)≤((y.getD 0 0).toNat:Int))))]) ⟨Z,Z,Z,trivial⟩<|zac Z ?_ ?_
     ·intro hc2
      try dsimp only at hc2
      refine a3 ?_
      refine zfR zg0 Z Z Z (y_in (fun T' => hF acc Hc2 hJ T')) ?_
      rintro _ _ ⟨_,Hc3,rfl,rfl,rfl,hK3⟩
      refine a1 ?_
      exact zad Tryz.func225 Z Z (⟨acc,y,Hc3,hls,hsp,.inr ⟨zo6 hc1 (.inr (.inr (.inr kQ))),hK3⟩,Z,Z⟩)
     ·intro hc2
      try dsimp only at hc2
      refine a3 ?_
      have hB2:=zeh (y.getD 0 0)
      refine zaN (es:=[7]) (pv:=[(0,.func (.yield lp) #[] #[]),(1,str y),(2,str y),(3,.int .u8 ((y.getD 0 0).toNat:Int)),(4,vV ((y.getD 0 0).toNat:Int)),(5,vV (1 + ((y.getD 0 0).toNat:Int))),(6,str (subl y 1 (1 + ((y.getD 0 0).toNat))))]) zaz kW kW kW ?_
      refine ⟨zj2<|zjz<|⟨zpr Z Z Z (zcv (l:=y) 0 Z kQ Z Z Z),⟨zpr Z Z Z (zda (z:=((y.getD 0 0).toNat:Int)) Z Z Z (zcG _)),⟨zpr Z Z Z (Do.add (z:=1 + ((y.getD 0 0).toNat:Int)) Z Z (w64 kQ kQ)),⟨zpr Z Z Z (zcZ (l:=y) 1 (1 + ((y.getD 0 0).toNat)) (zab Z Z) (zab Z Z) kQ kQ Z Z),trivial⟩⟩⟩⟩,Z,Z,by kernel_rfl,_,Z,Z,Z,_,zpT Z Z (y_in (fun T' => hY (subl y 1 (1 + ((y.getD 0 0).toNat))) acc Hc2 ⟨by rw [zal kQ]; omega,by rw [zal kQ]; omega⟩ hacc hJ T')),?_⟩
      rintro _ _ ⟨_,Hc3,rfl,rfl,rfl,hJ3⟩
      refine ⟨[(8,.bool false)],Z,?_⟩
      refine ⟨⟨zpr Z Z Z (zuK (b:=true) Z),zk4<|zjk<|zjk<|zjk<|trivial⟩,by kernel_rfl,?_⟩
      refine At.mono (E':=[(0,.func (.yield lp) #[] #[]),(1,pB bn),(36,.bool false)]) ⟨Z,Z,Z,trivial⟩<|a2 ?_
      have hB3:=zeh (y.getD 0 0)
      refine zaN (es:=[6]) (pv:=[(0,str y),(1,str y),(2,.int .u8 ((y.getD 0 0).toNat:Int)),(3,vV ((y.getD 0 0).toNat:Int)),(4,vV (1 + ((y.getD 0 0).toNat:Int))),(5,str (subl y (1 + ((y.getD 0 0).toNat)) y.length))]) zaz kW kW kW ?_
      refine ⟨zj2<|⟨zpr Z Z Z (zcv (l:=y) 0 Z kQ Z Z Z),⟨zpr Z Z Z (zda (z:=((y.getD 0 0).toNat:Int)) Z Z Z (zcG _)),⟨zpr Z Z Z (Do.add (z:=1 + ((y.getD 0 0).toNat:Int)) Z Z (w64 kQ kQ)),⟨zpr Z Z Z (zcZ (l:=y) (1 + ((y.getD 0 0).toNat)) y.length (zab Z Z) Z kQ kQ Z Z),trivial⟩⟩⟩⟩,Z,Z,by kernel_rfl,_,Z,Z,Z,_,zaS (H':=[(bn,.cells #[str (subl y (1 + ((y.getD 0 0).toNat)) y.length)] 9 (0,0))]::(Hc3++T)) 0 0 zdh Z Z Z Z Z Z Z Z Z,?_⟩
      rintro _ _ ⟨rfl,rfl⟩
      refine ⟨[],Z,?_⟩
      refine ⟨zk4<|zjk<|zjk<|trivial,by kernel_rfl,?_⟩
      refine At.mono (E':=[(0,.func (.yield lp) #[] #[]),(1,pB bn)]) ⟨Z,Z,trivial⟩<|a1 ?_
      refine ihL1 (subl y (1 + ((y.getD 0 0).toNat)) y.length) (acc++[subl y 1 (1 + (y.getD 0 0).toNat)]) Hc3 (⟨by obtain ⟨l,hl1,hl2,hl3⟩:=zzk hl0 kQ kQ; rw [hsp,zf7,← hl1,zDg]; exact zDh (flL acc++·) hl3,hls.snoc (by rw [zal kQ]; omega),hJ3⟩) (by rw [zal kQ]; omega) _ ?_
      exact ⟨Z,Z,trivial⟩
theorem zAS (n:yB) :
  SCalls Tryz.prog 152 [str n] w0 base (H) (fun v H' => ∃ bn:Nat,v = .func (.func 225) #[] #[pB bn]∧H' = [(bn,.cells #[str n] 9 (0,0))]::H):=by
 refine zaa (n:=4) Tryz.func152 Z Z Z fun cs => ?_
 refine a2 ?_
 refine zaU (cs:=#[str n]) Z zg0 Z Z ?_
 intro b1
 refine a4 ?_
 refine zbV zg0 Z Z Z<|a2 ?_
 exact zad Tryz.func152 Z Z (⟨b1,Z,Z⟩)
theorem zsV (n:yB) (hn:n.length≤4398046511104) :
  SCalls Tryz.prog 79 [str n] w0 base (H) (fun v H' => (∃ (A:Option Addr) (C:Nat) (ls:List yB) (so:Seg),Own tyS 9 A C ls so∧LsOk ls∧n=nmL ls∧n.length≤255∧v = .tuple #[.slice A ls.length C,int 0]∧H' = so::H)∨(∃ e:Int,e≠0∧¬ NmOk n∧v = .tuple #[.slice none 0 0,int e]∧H' = H)):=by
 refine zaa (n:=21) Tryz.func79 Z Z Z fun cs => ?_
 refine a2 ?_
 refine AtL.alloc zj0 (cs:=#[.slice none 0 0]) Z zg0 Z ?_
 intro b1
 refine AtL.alloc ziE (cs:=#[vV 0]) Z zg0 Z ?_
 intro b2
 refine a3 ?_
 refine AtL.alloc zj0 (cs:=#[.slice none 0 0]) Z zg0 Z ?_
 intro b3
 refine a5 ?_
 refine zca Z (zAS n) ?_
 rintro _ _ ⟨bn4,rfl,rfl⟩
 refine a2 ?_
 refine At.nil<|zpk [1,0,2,4,3] 5 ?_
 refine znl (R:=(fun L lp rr v H' => ∃ (y:yB) (A:Option Addr) (C:Nat) (l:List yB) (so:Seg) (L' : Loop) (e:Int),Own tyS 9 A C l so∧((L' = L∧e=0∧(LsOk l∧n=nmL l))∨(L' = znP L .ret∧e=4∧¬ ∃ ls,LsOk ls∧n=nmL ls))∧H' = [(bn4,.cells #[str y] 9 (0,0))]::[(lp,.loop L')]::[(rr,.deferred (some []))]::so::O7 b3 A l.length C::O7 b1 none 0 0::O9 b2 e::H)) Z zqd Z (fun lp => Z) (fun L lp rr hL => ?_) (fun L lp rr v H1 hL hR => ?_)
 ·refine SCalls.pick (H':=[(bn4,.cells #[str n] 9 (0,0))]::[(lp,.loop L)]::[(rr,.deferred (some []))]::[]::O7 b3 none 0 0::O7 b1 none 0 0::O9 b2 0::H) [2,0,1,3,4,5,6] 7 Z Z ?_
  refine SCalls.mono (zAU (n:=n) (T:=H) (Hc:=[[(lp,.loop L)],[(rr,.deferred (some []))],[],(O7 b3 none 0 0),(O7 b1 none 0 0),(O9 b2 0)]) (J:=(fun l Hc => ∃ (A:Option Addr) (C:Nat) (so:Seg),Own tyS 9 A C l so∧Hc=[[(lp,.loop L)],[(rr,.deferred (some []))],so,(O7 b3 A l.length C),(O7 b1 none 0 0),(O9 b2 0)])) (K:=(fun Hc => ∃ (A:Option Addr) (C:Nat) (l:List yB) (so:Seg),Own tyS 9 A C l so∧Hc=[[(lp,.loop (znP L .ret))],[(rr,.deferred (some []))],so,(O7 b3 A l.length C),(O7 b1 none 0 0),(O9 b2 4)])) hn (fun u l Hc hul hacc hJ T' => ?_) (fun l Hc hJ T' => ?_) ⟨none,0,[],Own.nil tyS 9,Z⟩) (fun v H' hp => ?_)
  ·obtain ⟨A,C,so,o,rfl⟩:=hJ
   have hcapo:=Own.cap_le o
   refine zfL hL (i:=0) (j:=0) Z Z Z Z Z (fun c cs => ?_)
   refine a7 ?_
   refine zjF 0 0 hL Z Z Z Z<|a12 ?_
   refine zae (cs:=[str u]) Z zeP zdh Z Z zg0 Z Z Z ?_
   intro b5
   refine zau tyS (l:=([u]:List yB)) Z Z kT ?_
   intro s6 o7
   refine zap (l:=l) (news:=[u]) 3 zoD Z o (o7.rd (i:=0) Z) (by first | omega | (simp only [zC6,zC7,zC8]; omega) | (simp; done) | (simp; omega)) zg0 Z Z Z ?_
   intro A8 C9 s10 o11
   refine a3 ?_
   refine zpk [1,2,3,4,5,6] 7 ?_
   exact zic 0 0 hL Z Z Z (⟨true,[[(lp,.loop L)],[(rr,.deferred (some []))],s10,[(b3,.cells #[.slice A8 (l++[u]).length C9] 171 (0,0))],(O7 b1 none 0 0),(O9 b2 0)],Z,Z,Z,_,_,_,o11,Z⟩)
  ·obtain ⟨A,C,so,o,rfl⟩:=hJ
   have hcapo:=Own.cap_le o
   refine zfL hL (i:=0) (j:=0) Z Z Z Z Z (fun c cs => ?_)
   refine a7 ?_
   refine zjF 0 0 hL Z Z Z Z<|a13 ?_
   exact znj 0 0 Z Z Z (⟨false,[[(lp,.loop (znP L .ret))],[(rr,.deferred (some []))],so,(O7 b3 A l.length C),(O7 b1 none 0 0),(O9 b2 4)],Z,Z,Z,_,_,_,_,o,Z⟩)
  ·obtain ⟨acc,y,Hc',hls,hsp,h1,rfl,rfl⟩:=hp
   rcases h1 with ⟨rfl,A,C,so,o,rfl⟩ | ⟨hbad,A,C,l,so,o,rfl⟩
   ·exact ⟨[0],A,C,acc,so,L,0,o,.inl ⟨Z,Z,hls,hsp⟩,Z⟩
   ·exact ⟨y,A,C,l,so,znP L .ret,4,o,.inr ⟨Z,Z,fun h9 => hbad (zzo hls (by rw [← hsp]; exact h9))⟩,Z⟩
 ·obtain ⟨y,A,C,l,so,L',e,o,h1,rfl⟩:=hR
  rcases h1 with ⟨rfl,rfl,hgood⟩ | ⟨rfl,rfl,hbad⟩
  ·refine ⟨1,0,_,_,_,Z,Z,zkp hL,Z,?_⟩
   rw [zpb hL]
   refine a5 ?_
   refine zbu (l:=n) Z zg0 Z Z<|a2 ?_
   refine zac Z ?_ ?_
   ·intro hc2
    try dsimp only at hc2
    refine a5 ?_
    refine zbv Z<|zdn (i:=2) (j:=0) Z Z Z Z ?_
    exact zaW (vs:=[.slice none 0 0,vV 3]) [] 7 Z Z Tryz.func79 Z ⟨⟨_,Z,LoadsTo.flat zhc (Cell.own 5 0 Z Z Z)⟩,⟨_,Z,LoadsTo.flat zbw (Cell.own 6 0 Z Z Z)⟩,trivial⟩ (.inr ⟨_,by decide,fun h => by obtain ⟨ls,h1,h2,h3⟩:=h; omega,rfl,rfl⟩)
   ·intro hc2
    try dsimp only at hc2
    refine a7 ?_
    refine zbv Z<|zdn (i:=2) (j:=0) Z Z Z Z ?_
    exact zaW (vs:=[.slice A l.length C,vV 0]) [3] 7 Z Z Tryz.func79 Z ⟨⟨_,Z,LoadsTo.flat zhc (Cell.own 5 0 Z Z Z)⟩,⟨_,Z,LoadsTo.flat zbw (Cell.own 6 0 Z Z Z)⟩,trivial⟩ (.inl ⟨_,_,_,_,o,hgood.1,hgood.2,by omega,Z,Z⟩)
  ·refine ⟨1,0,_,_,_,Z,Z,zsK,Z,?_⟩
   show At _ (.code .ret::_) _ _ _
   refine zbv Z<|zdn (i:=2) (j:=0) Z Z Z Z ?_
   exact zaW (vs:=[.slice none 0 0,vV 4]) [] 7 Z Z Tryz.func79 Z ⟨⟨_,Z,LoadsTo.flat zhc (Cell.own 5 0 Z Z Z)⟩,⟨_,Z,LoadsTo.flat zbw (Cell.own 6 0 Z Z Z)⟩,trivial⟩ (.inr ⟨_,by decide,fun h => hbad (by obtain ⟨ls,h1,h2,_⟩:=h; exact ⟨ls,h1,h2⟩),Z,Z⟩)
theorem zgN (n:yB) (hn:n.length≤4398046511104) :
  SCalls Tryz.prog 27 [str n] w0 base (H) (fun v H' => ∃ e:Int,(e=0↔NmOk n)∧v=int e∧H' = H):=by
 refine zaa (n:=11) Tryz.func27 Z Z Z fun cs => ?_
 refine a7 ?_
 refine zca Z (zsV n kQ) ?_
 rintro _ _ (⟨A2,C3,ls4,s5,o6,hlb71,hlb72,hlb73,rfl,rfl⟩ | ⟨e1,hlb74,hlb75,rfl,rfl⟩)
 ·refine a11 ?_
  refine zpk [] 1 ?_
  exact zad Tryz.func27 Z Z (⟨_,⟨fun _ => ⟨_,hlb71,hlb72,hlb73⟩,fun _ => Z⟩,Z,Z⟩)
 ·refine a11 ?_
  exact zad Tryz.func27 Z Z (⟨_,⟨fun h => absurd h hlb74,fun h => absurd h hlb75⟩,Z,Z⟩)
def ptsF (t:Int):Option (List (Int×Bool×Bool)) :=
 if t=1 then some [(4,false,false)] else if t=28 then some [(16,false,false)] else if t=2 then some [(0,true,false)] else if t=5 then some [(0,true,false)]
 else if t=12 then some [(0,true,false)] else if t=15 then some [(2,false,false),(0,true,false)] else if t=6 then some [(0,true,false),(0,true,false),(20,false,false)]
 else if t=16 then some [(0,false,true)] else none
def PaOk (p:Int×Bool×Bool):Prop:=(0≤p.1∧p.1≤20∧p.2=(false,false))∨p=(0,true,false)∨p=(0,false,true)
theorem zx2 (h:ptsF t=some ps):(∀ p ∈ ps,PaOk p)∧ps.length≤3∧∀ i,i < ps.length→ps.getD i (0,false,false)=(0,false,true)→i + 1=ps.length:=by
 unfold ptsF at h
 repeat' split at h
 all_goals first | (cases h; done) | skip
 all_goals
  cases zDM h
  refine ⟨fun p hp => ?_,by decide,by decide⟩
  simp only [zDp,zFD,zGr] at hp
  unfold PaOk
  grind
inductive Tx (s:yB):Nat→Prop
  | done:Tx s s.length
  | step {i:Nat}(hi:i < s.length) (h:Tx s (i + (1 + (s.getD i 0).toNat))):Tx s i
theorem Tx.le (h:Tx s i):i≤s.length:=by
 cases h with
 | done => omega
 | step hi _ => omega
theorem Tx.inv (hi:i < s.length):Tx s i↔Tx s (i + (1 + (s.getD i 0).toNat)):=by
 constructor
 ·intro h
  cases h with
  | done => omega
  | step _ h => exact h
 ·exact Tx.step hi
def TxOk (s:yB):Prop:=Tx s 0∧s≠[]
inductive Sp:List (Int×Bool×Bool)→yB→List (yB×Bool)→Prop
  | nil:Sp [] [] []
  | size {z:Int}{ps:List (Int×Bool×Bool)}{s r:yB}{l:List (yB×Bool)}(hz:(s.length:Int)=z) (h:Sp ps r l):Sp ((z,false,false)::ps) (s++r) ((s,false)::l)
  | name {ps:List (Int×Bool×Bool)}{n r:yB}{l:List (yB×Bool)}(hn:NmOk n) (h:Sp ps r l):Sp ((0,true,false)::ps) (n++r) ((n,true)::l)
  | rest {s:yB}(hs:TxOk s):Sp [(0,false,true)] s [(s,false)]
def DtP (t:Int) (s:yB) (l:List (yB×Bool)):Prop:=match ptsF t with | none => l=[(s,false)] | some ps => Sp ps s l
def DOk (t:Int) (s:yB):Prop:=(0≤t∧t≤65535)∧s.length≤65535∧∃ l,DtP t s l
theorem znG:∀ {ls ms:List yB}{r q:yB},LsOk ls→LsOk ms→nmL ls++r=nmL ms++q→ls=ms∧r=q
 | [],[],r,q,_,_,h => ⟨rfl,by simp_all⟩
 | [],m::ms,r,q,_,hm,h => by
  have h1:=hm m (zDH ..)
  rw [zst,zcS,zDr] at h
  have h2:=zDh UInt8.toNat (zFT h).1
  rw [zeO kQ] at h2
  grind
 | l::ls,[],r,q,hl,_,h => by
  have h1:=hl l (zDH ..)
  rw [zst,zcS,zDr] at h
  have h2:=zDh UInt8.toNat (zFT h).1
  rw [zeO kQ] at h2
  grind
 | l::ls,m::ms,r,q,hl,hm,h => by
  have h1:=hl l (zDH ..)
  have h3:=hm m (zDH ..)
  rw [zcS,zcS,zDr,zDr] at h
  have h2:=zDh UInt8.toNat (zFT h).1
  rw [zeO kQ,zeO kQ] at h2
  have h4:=(zFT h).2
  rw [zDg,zDg] at h4
  obtain ⟨h5,h6⟩:=zGi h4 h2
  obtain ⟨h7,h8⟩:=znG (fun x hx => hl x (zDF _ hx)) (fun x hx => hm x (zDF _ hx)) h6
  grind
theorem zmi {n m q:yB}(hn:NmOk n) (hm:NmOk m) (h:n++r=m++q):n=m∧r=q:=by
 obtain ⟨ls,h1,rfl,_⟩:=hn
 obtain ⟨ms,h2,rfl,_⟩:=hm
 grind [znG]
theorem zoI {l:List (yB×Bool)}:Sp [] s l↔s=[]∧l=[]:=by
 constructor
 ·intro h; cases h; grind
 ·rintro ⟨rfl,rfl⟩; exact .nil
theorem zkU {l:List (yB×Bool)}:Sp ((z,false,false)::ps) s l↔∃ a r l',s=a++r∧(a.length:Int)=z∧Sp ps r l'∧l=(a,false)::l':=by
 constructor
 ·intro h; cases h with | size hz h => grind
 ·rintro ⟨a,r,l',rfl,hz,h,rfl⟩; exact .size hz h
theorem zkW {l:List (yB×Bool)}:Sp ((0,true,false)::ps) s l↔∃ n r l',s=n++r∧NmOk n∧Sp ps r l'∧l=(n,true)::l':=by
 constructor
 ·intro h; cases h with | name hn h => grind
 ·rintro ⟨n,r,l',rfl,hn,h,rfl⟩; exact .name hn h
theorem zkV {l:List (yB×Bool)}:Sp [(0,false,true)] s l↔TxOk s∧l=[(s,false)]:=by
 constructor
 ·intro h; cases h with | rest hs => grind
 ·rintro ⟨hs,rfl⟩; exact .rest hs
def SpAt (ps0:List (Int×Bool×Bool)) (s0:yB) (cut:List (yB×Bool)) (ps:List (Int×Bool×Bool)) (s:yB):Prop:=∀ l,Sp ps0 s0 l↔∃ l',l=cut++l'∧Sp ps s l'
theorem SpAt.begin (ps:List (Int×Bool×Bool)) (s:yB):SpAt ps s [] ps s:=fun l => ⟨fun h => ⟨l,rfl,h⟩,fun ⟨l',h1,h2⟩ => by grind⟩
theorem SpAt.size {cut:List (yB×Bool)}{z:Nat}(h:SpAt ps0 s0 cut (((z:Int),false,false)::ps) s) (hz:z≤s.length):SpAt ps0 s0 (cut++[(subl s 0 z,false)]) ps (subl s z s.length):=fun l => by
 rw [h l,zbK,zbx]
 constructor
 ·rintro ⟨l',rfl,h1⟩
  obtain ⟨a,r,l2,rfl,h2,h3,rfl⟩:=zkU.1 h1
  grind [List.take_left,List.drop_left]
 ·rintro ⟨l',rfl,h1⟩
  exact ⟨(s.take z,false)::l',by simp,zkU.2 ⟨_,_,_,(zDB z s).symm,by grind,h1,rfl⟩⟩
theorem zq1 {cut:List (yB×Bool)}(h:SpAt ps0 s0 cut ((z,false,false)::ps) s) (hz:(s.length:Int) < z):¬ ∃ l,Sp ps0 s0 l:=by
 rintro ⟨l,hl⟩
 obtain ⟨l',_,h1⟩:=(h l).1 hl
 obtain ⟨a,r,l2,rfl,h2,_⟩:=zkU.1 h1
 grind
theorem SpAt.name {n:yB}{cut:List (yB×Bool)}(h:SpAt ps0 s0 cut ((0,true,false)::ps) s) (hs:s=n++r) (hn:NmOk n):SpAt ps0 s0 (cut++[(subl s 0 n.length,true)]) ps (subl s n.length s.length):=fun l => by
 subst hs
 rw [h l,zbK,zbx,zEA,zFJ]
 constructor
 ·rintro ⟨l',rfl,h1⟩
  obtain ⟨m,q,l2,h2,h3,h4,rfl⟩:=zkW.1 h1
  obtain ⟨rfl,rfl⟩:=zmi hn h3 h2
  grind
 ·rintro ⟨l',rfl,h1⟩
  exact ⟨(n,true)::l',by simp,zkW.2 ⟨_,_,_,rfl,hn,h1,rfl⟩⟩
theorem zoe {cut:List (yB×Bool)}(h:SpAt ps0 s0 cut ((0,true,false)::ps) s) (hn:¬ ∃ n r,s=n++r∧NmOk n):¬ ∃ l,Sp ps0 s0 l:=by
 rintro ⟨l,hl⟩
 obtain ⟨l',_,h1⟩:=(h l).1 hl
 grind [zkW]
theorem SpAt.rest {cut:List (yB×Bool)}(h:SpAt ps0 s0 cut [(0,false,true)] s) (hs:TxOk s):SpAt ps0 s0 (cut++[(subl s 0 s.length,false)]) [] (subl s s.length s.length):=fun l => by
 rw [h l,zbK,zbx,zF5,List.drop_length]
 constructor
 ·rintro ⟨l',rfl,h1⟩
  obtain ⟨_,rfl⟩:=zkV.1 h1
  exact ⟨[],by simp,.nil⟩
 ·rintro ⟨l',rfl,h1⟩
  obtain ⟨_,rfl⟩:=zoI.1 h1
  exact ⟨[(s,false)],by simp,zkV.2 ⟨hs,rfl⟩⟩
theorem zod {cut:List (yB×Bool)}(h:SpAt ps0 s0 cut [(0,false,true)] s) (hs:¬ TxOk s):¬ ∃ l,Sp ps0 s0 l:=by
 rintro ⟨l,hl⟩
 obtain ⟨l',_,h1⟩:=(h l).1 hl
 grind [zkV]
theorem SpAt.over {cut:List (yB×Bool)}(h:SpAt ps0 s0 cut [] s):(s=[]→Sp ps0 s0 cut)∧(s≠[]→¬ ∃ l,Sp ps0 s0 l):=by
 constructor
 ·intro hs; exact (h cut).2 ⟨[],by simp,zoI.2 ⟨hs,rfl⟩⟩
 ·rintro hs ⟨l,hl⟩
  obtain ⟨l',_,h1⟩:=(h l).1 hl
  grind [zoI]
theorem zbS {l:List α}{d:α}(h:i < l.length):l.drop i=l.getD i d::l.drop (i + 1):=by
 simp_all
def NfAt (s:yB) (i:Nat):Prop:=∀ n r,s=n++r→NmOk n→∃ d ls,LsOk d∧LsOk ls∧n=flL d++nmL ls∧(flL d).length=i
theorem NfAt.zero (s:yB):NfAt s 0:=fun n r h hn => by
 obtain ⟨ls,h1,h2,_⟩:=hn
 exact ⟨[],ls,LsOk.nil,h1,h2,rfl⟩
theorem NfAt.lt (h:NfAt s i) {n:yB}(hs:s=n++r) (hn:NmOk n):i < s.length∧i < 255:=by
 obtain ⟨d,ls,_,_,h3,h4⟩:=h n r hs hn
 obtain ⟨_,_,_,h5⟩:=hn
 have:=zi0 ls
 grind
theorem NfAt.over (h:NfAt s i) (hi:¬ (i < s.length∧i < 255)):¬ ∃ n r,s=n++r∧NmOk n:=fun ⟨_,_,h1,h2⟩ => hi (h.lt h1 h2)
theorem NfAt.at_ (h:NfAt s i) {n:yB}(hs:s=n++r) (hn:NmOk n):((s.getD i 0).toNat=0→n=subl s 0 (i + 1))∧(¬ (s.getD i 0).toNat=0→∃ d ls,LsOk d∧LsOk ls∧n=flL d++nmL ls∧(flL d).length=i + (1 + (s.getD i 0).toNat)):=by
 obtain ⟨d,ls,h1,h2,h3,h4⟩:=h n r hs hn
 have e:s.getD i 0=(nmL ls).getD 0 0:=by
  simp_all [zDg,zD8,zEy,zDe,zF6,zEa,zi0]
 rw [e]
 cases ls with
 | nil =>
  refine ⟨fun _ => ?_,fun h9 => absurd Z h9⟩
  have e2:n.length=i + 1:=by rw [h3,zC6,h4]; rfl
  grind [zbK,List.take_left]
 | cons l r2 =>
  have h5:=h2 l (zDH ..)
  rw [znH h5.2]
  refine ⟨fun h9 => by omega,fun _ => ⟨d++[l],r2,h1.snoc h5,fun x hx => h2 x (zDF _ hx),by grind [zf7,zcS],by grind [zf7,List.length_append,List.length_cons]⟩⟩
theorem NfAt.step (h:NfAt s i) (hz:¬ (s.getD i 0).toNat=0):NfAt s (i + (1 + (s.getD i 0).toNat)):=fun _ _ h1 h2 => (h.at_ h1 h2).2 hz
theorem NfAt.bad (h:NfAt s i) (hz:(s.getD i 0).toNat=0) (hb:¬ NmOk (subl s 0 (i + 1))):¬ ∃ n r,s=n++r∧NmOk n:=fun ⟨_,_,h1,h2⟩ => by
 have:=(h.at_ h1 h2).1 hz
 grind
def errV (te:TypeId) (a:Option Addr) (ok:Bool):Value:=if ok then .nilIface else .iface te (.pointer a)
theorem zwQ {w:World}{t:TypeId}{a:Option Addr}(hu:P.underlying t=some (.interface ms)):(Op.equalIn (n + 1) t (errV te a ok) .nilIface).run P w = .ok ok w:=by
 cases ok with
 | true => exact zgZ hu
 | false => exact zjO hu
section rules
variable {X:Pt}{E:Env}{H:List Seg}{ops:Array Oper}{os:List Oper}{k:List Item}{ds:List Deferred}{d:Nat}{ty:TypeId}{pos:String}{after:Array Edge}{g:Option (Nat×Bool)}
theorem zxC {tx tz:TypeId}{a:Option Addr}(hu:X.P.underlying tx=some (.interface ms)) (hx:ev E x=some (errV te a ok)):Does X E H (.binOp .neq tx x (.const .nilIface) tz) (Is (.bool (!ok)) H) :=
 zoh (by cases ok <;> rfl) (by cases ok <;> cases x <;> rfl) hx rfl (fun w => zwQ hu)
theorem znh {tx tz:TypeId}{a:Option Addr}(hu:X.P.underlying tx=some (.interface ms)) (hg:Wd X ops E g) (hd:Nat.blt d X.n=true) (hx:ev E x=some (errV te a ok)) (hk:AtL X ops os k ((d,.bool (!ok))::E) ds H) :
  AtL X ops (⟨some d,.binOp .neq tx x (.const .nilIface) tz,ty,pos,after,g⟩::os) k E ds H :=
 zai (zxC hu hx) hg hd hk
end rules
section calls
variable {P:Program}{f:FuncId}{args:List Value}{w0:World}{base:Nat}{H:List Seg}
theorem zff {Q:Value→Prop}(h:∀ w,Sep w0 base w H→Calls P f args.toArray w fun e w' => ∃ v,e = .returned v∧Q v∧Below w.heap.size w w'):SCalls P f args w0 base H (fun u H' => Q u∧H' = H) :=
 fun w S => (h w S).mono fun e w' ⟨v,he,hq,hw⟩ => ⟨v,H,he,⟨hq,Z⟩,S.kept hw⟩
end calls
def zgy:Ty (Int×Bool×Bool):={ val:=fun x => .agg #[int x.1,.bool x.2.1,.bool x.2.2],sz:=3,ok:=fun _ => rfl,plain:=fun x c hc => by simp [int,Value.cells] at hc; rcases hc with rfl | rfl | rfl <;> rfl }
theorem zkR:ElemOk Tryz.prog 321 400 zdI (([],false):yB×Bool) 24:=ElemOk.of Tryz.underlying321 kW kW rfl
theorem zoZ (t:Int) :
  SCalls Tryz.prog 160 [vV t] w0 base (H) (fun v H' => (∃ o:Sl zgy 335,ptsF t=some o.l∧v = .tuple #[.slice o.A o.l.length o.C,.bool true]∧H' = o.s::H)∨(ptsF t=none∧v = .tuple #[.slice none 0 0,.bool false]∧H' = H)):=by
 refine zaa (n:=36) Tryz.func160 Z Z Z fun cs => ?_
 refine a7 ?_
 refine zak (cs:=[vV 0,.bool true,.bool false]) zew zg0 Z Z Z<|AtL.alloc zbb (cs:=#[vV 0,.bool false,.bool false]) Z zg0 Z ?_
 intro b1
 refine a4 ?_
 refine zjA kyI (fun x:Value => x) zg0 Z ?_
 intro b2
 refine zak (cs:=[vV 4,.bool false,.bool false]) zew zg0 Z Z Z<|zae (cs:=[vV 4,.bool false,.bool false]) Z zbb zb9 Z Z zg0 Z Z Z ?_
 intro b3
 refine zau zgy (l:=([((4:Int),false,false)]:List (Int×Bool×Bool))) Z Z kT ?_
 intro s4 o5
 refine zaQ (Q:=kyI) (tv:=(fun x:Value => x)) (a:=1) (v:=(.slice (some ⟨b3,0,none⟩) [((4:Int),false,false)].length 1:Value)) (H':=s4::[(b2,mapO kyI (fun x:Value => x) ([(1,(.slice (some ⟨b3,0,none⟩) [((4:Int),false,false)].length 1:Value))]))]::O6 b1 0 true false::H) 1 0 Z Z Z zg0 Z Z kI Z Z Z Z<|zak (cs:=[vV 16,.bool false,.bool false]) zew zg0 Z Z Z<|zae (cs:=[vV 16,.bool false,.bool false]) Z zbb zb9 Z Z zg0 Z Z Z ?_
 intro b6
 refine zau zgy (l:=([((16:Int),false,false)]:List (Int×Bool×Bool))) Z Z kT ?_
 intro s7 o8
 refine zaQ (Q:=kyI) (tv:=(fun x:Value => x)) (a:=28) (v:=(.slice (some ⟨b6,0,none⟩) [((16:Int),false,false)].length 1:Value)) (H':=s7::s4::[(b2,mapO kyI (fun x:Value => x) ([(1,(.slice (some ⟨b3,0,none⟩) [((4:Int),false,false)].length 1:Value)),(28,(.slice (some ⟨b6,0,none⟩) [((16:Int),false,false)].length 1:Value))]))]::O6 b1 0 true false::H) 2 0 Z Z Z zg0 Z Z kI Z Z Z Z<|a1 ?_
 refine zae (cs:=[vV 0,.bool true,.bool false]) Z zbb zb9 Z Z zg0 Z Z Z ?_
 intro b9
 refine zau zgy (l:=([((0:Int),true,false)]:List (Int×Bool×Bool))) Z Z kT ?_
 intro s10 o11
 refine zaQ (Q:=kyI) (tv:=(fun x:Value => x)) (a:=2) (v:=(.slice (some ⟨b9,0,none⟩) [((0:Int),true,false)].length 1:Value)) (H':=s10::s7::s4::[(b2,mapO kyI (fun x:Value => x) ([(1,(.slice (some ⟨b3,0,none⟩) [((4:Int),false,false)].length 1:Value)),(28,(.slice (some ⟨b6,0,none⟩) [((16:Int),false,false)].length 1:Value)),(2,(.slice (some ⟨b9,0,none⟩) [((0:Int),true,false)].length 1:Value))]))]::O6 b1 0 true false::H) 3 0 Z Z Z zg0 Z Z kI Z Z Z Z<|a1 ?_
 refine zae (cs:=[vV 0,.bool true,.bool false]) Z zbb zb9 Z Z zg0 Z Z Z ?_
 intro b12
 refine zau zgy (l:=([((0:Int),true,false)]:List (Int×Bool×Bool))) Z Z kT ?_
 intro s13 o14
 refine zaQ (Q:=kyI) (tv:=(fun x:Value => x)) (a:=5) (v:=(.slice (some ⟨b12,0,none⟩) [((0:Int),true,false)].length 1:Value)) (H':=s13::s10::s7::s4::[(b2,mapO kyI (fun x:Value => x) ([(1,(.slice (some ⟨b3,0,none⟩) [((4:Int),false,false)].length 1:Value)),(28,(.slice (some ⟨b6,0,none⟩) [((16:Int),false,false)].length 1:Value)),(2,(.slice (some ⟨b9,0,none⟩) [((0:Int),true,false)].length 1:Value)),(5,(.slice (some ⟨b12,0,none⟩) [((0:Int),true,false)].length 1:Value))]))]::O6 b1 0 true false::H) 4 0 Z Z Z zg0 Z Z kI Z Z Z Z<|a1 ?_
 refine zae (cs:=[vV 0,.bool true,.bool false]) Z zbb zb9 Z Z zg0 Z Z Z ?_
 intro b15
 refine zau zgy (l:=([((0:Int),true,false)]:List (Int×Bool×Bool))) Z Z kT ?_
 intro s16 o17
 refine zaQ (Q:=kyI) (tv:=(fun x:Value => x)) (a:=12) (v:=(.slice (some ⟨b15,0,none⟩) [((0:Int),true,false)].length 1:Value)) (H':=s16::s13::s10::s7::s4::[(b2,mapO kyI (fun x:Value => x) ([(1,(.slice (some ⟨b3,0,none⟩) [((4:Int),false,false)].length 1:Value)),(28,(.slice (some ⟨b6,0,none⟩) [((16:Int),false,false)].length 1:Value)),(2,(.slice (some ⟨b9,0,none⟩) [((0:Int),true,false)].length 1:Value)),(5,(.slice (some ⟨b12,0,none⟩) [((0:Int),true,false)].length 1:Value)),(12,(.slice (some ⟨b15,0,none⟩) [((0:Int),true,false)].length 1:Value))]))]::O6 b1 0 true false::H) 5 0 Z Z Z zg0 Z Z kI Z Z Z Z<|zak (cs:=[vV 2,.bool false,.bool false]) zew zg0 Z Z Z<|a1 ?_
 refine zae (cs:=[vV 2,.bool false,.bool false,vV 0,.bool true,.bool false]) Z zbb zb9 Z Z zg0 Z Z Z ?_
 intro b18
 refine zau zgy (l:=([((2:Int),false,false),((0:Int),true,false)]:List (Int×Bool×Bool))) Z Z kT ?_
 intro s19 o20
 refine zaQ (Q:=kyI) (tv:=(fun x:Value => x)) (a:=15) (v:=(.slice (some ⟨b18,0,none⟩) [((2:Int),false,false),((0:Int),true,false)].length 2:Value)) (H':=s19::s16::s13::s10::s7::s4::[(b2,mapO kyI (fun x:Value => x) ([(1,(.slice (some ⟨b3,0,none⟩) [((4:Int),false,false)].length 1:Value)),(28,(.slice (some ⟨b6,0,none⟩) [((16:Int),false,false)].length 1:Value)),(2,(.slice (some ⟨b9,0,none⟩) [((0:Int),true,false)].length 1:Value)),(5,(.slice (some ⟨b12,0,none⟩) [((0:Int),true,false)].length 1:Value)),(12,(.slice (some ⟨b15,0,none⟩) [((0:Int),true,false)].length 1:Value)),(15,(.slice (some ⟨b18,0,none⟩) [((2:Int),false,false),((0:Int),true,false)].length 2:Value))]))]::O6 b1 0 true false::H) 6 0 Z Z Z zg0 Z Z kI Z Z Z Z<|a2 ?_
 refine zak (cs:=[vV 20,.bool false,.bool false]) zew zg0 Z Z Z<|zae (cs:=[vV 0,.bool true,.bool false,vV 0,.bool true,.bool false,vV 20,.bool false,.bool false]) Z zbb zb9 Z Z zg0 Z Z Z ?_
 intro b21
 refine zau zgy (l:=([((0:Int),true,false),((0:Int),true,false),((20:Int),false,false)]:List (Int×Bool×Bool))) Z Z kT ?_
 intro s22 o23
 refine zaQ (Q:=kyI) (tv:=(fun x:Value => x)) (a:=6) (v:=(.slice (some ⟨b21,0,none⟩) [((0:Int),true,false),((0:Int),true,false),((20:Int),false,false)].length 3:Value)) (H':=s22::s19::s16::s13::s10::s7::s4::[(b2,mapO kyI (fun x:Value => x) ([(1,(.slice (some ⟨b3,0,none⟩) [((4:Int),false,false)].length 1:Value)),(28,(.slice (some ⟨b6,0,none⟩) [((16:Int),false,false)].length 1:Value)),(2,(.slice (some ⟨b9,0,none⟩) [((0:Int),true,false)].length 1:Value)),(5,(.slice (some ⟨b12,0,none⟩) [((0:Int),true,false)].length 1:Value)),(12,(.slice (some ⟨b15,0,none⟩) [((0:Int),true,false)].length 1:Value)),(15,(.slice (some ⟨b18,0,none⟩) [((2:Int),false,false),((0:Int),true,false)].length 2:Value)),(6,(.slice (some ⟨b21,0,none⟩) [((0:Int),true,false),((0:Int),true,false),((20:Int),false,false)].length 3:Value))]))]::O6 b1 0 true false::H) 7 0 Z Z Z zg0 Z Z kI Z Z Z Z<|zak (cs:=[vV 0,.bool false,.bool true]) zew zg0 Z Z Z<|zae (cs:=[vV 0,.bool false,.bool true]) Z zbb zb9 Z Z zg0 Z Z Z ?_
 intro b24
 refine zau zgy (l:=([((0:Int),false,true)]:List (Int×Bool×Bool))) Z Z kT ?_
 intro s25 o26
 refine zaQ (Q:=kyI) (tv:=(fun x:Value => x)) (a:=16) (v:=(.slice (some ⟨b24,0,none⟩) [((0:Int),false,true)].length 1:Value)) (H':=s25::s22::s19::s16::s13::s10::s7::s4::[(b2,mapO kyI (fun x:Value => x) ([(1,(.slice (some ⟨b3,0,none⟩) [((4:Int),false,false)].length 1:Value)),(28,(.slice (some ⟨b6,0,none⟩) [((16:Int),false,false)].length 1:Value)),(2,(.slice (some ⟨b9,0,none⟩) [((0:Int),true,false)].length 1:Value)),(5,(.slice (some ⟨b12,0,none⟩) [((0:Int),true,false)].length 1:Value)),(12,(.slice (some ⟨b15,0,none⟩) [((0:Int),true,false)].length 1:Value)),(15,(.slice (some ⟨b18,0,none⟩) [((2:Int),false,false),((0:Int),true,false)].length 2:Value)),(6,(.slice (some ⟨b21,0,none⟩) [((0:Int),true,false),((0:Int),true,false),((20:Int),false,false)].length 3:Value)),(16,(.slice (some ⟨b24,0,none⟩) [((0:Int),false,true)].length 1:Value))]))]::O6 b1 0 true false::H) 8 0 Z Z Z zg0 Z Z kI Z Z Z Z<|a2 ?_
 refine zkL (Q:=kyI) (tv:=(fun x:Value => x)) (a:=t) (v:=.tuple #[(((atK t ([(1,(.slice (some ⟨b3,0,none⟩) [((4:Int),false,false)].length 1:Value)),(28,(.slice (some ⟨b6,0,none⟩) [((16:Int),false,false)].length 1:Value)),(2,(.slice (some ⟨b9,0,none⟩) [((0:Int),true,false)].length 1:Value)),(5,(.slice (some ⟨b12,0,none⟩) [((0:Int),true,false)].length 1:Value)),(12,(.slice (some ⟨b15,0,none⟩) [((0:Int),true,false)].length 1:Value)),(15,(.slice (some ⟨b18,0,none⟩) [((2:Int),false,false),((0:Int),true,false)].length 2:Value)),(6,(.slice (some ⟨b21,0,none⟩) [((0:Int),true,false),((0:Int),true,false),((20:Int),false,false)].length 3:Value)),(16,(.slice (some ⟨b24,0,none⟩) [((0:Int),false,true)].length 1:Value))])).map (fun x:Value => x)).getD (.slice none 0 0)),.bool ((atK t ([(1,(.slice (some ⟨b3,0,none⟩) [((4:Int),false,false)].length 1:Value)),(28,(.slice (some ⟨b6,0,none⟩) [((16:Int),false,false)].length 1:Value)),(2,(.slice (some ⟨b9,0,none⟩) [((0:Int),true,false)].length 1:Value)),(5,(.slice (some ⟨b12,0,none⟩) [((0:Int),true,false)].length 1:Value)),(12,(.slice (some ⟨b15,0,none⟩) [((0:Int),true,false)].length 1:Value)),(15,(.slice (some ⟨b18,0,none⟩) [((2:Int),false,false),((0:Int),true,false)].length 2:Value)),(6,(.slice (some ⟨b21,0,none⟩) [((0:Int),true,false),((0:Int),true,false),((20:Int),false,false)].length 3:Value)),(16,(.slice (some ⟨b24,0,none⟩) [((0:Int),false,true)].length 1:Value))])).isSome)]) 8 0 Z Z Z zp7 zg0 Z Z Z Z Z Z<|a7 ?_
 rcases zGa (t=1∨t=28∨t=2∨t=5∨t=12∨t=15∨t=6∨t=16) with hk | hk
 ·rcases hk with rfl | rfl | rfl | rfl | rfl | rfl | rfl | rfl
  ·refine a6 ?_
   refine zpk [7] 10 ?_
   exact zad Tryz.func160 Z Z (.inl ⟨⟨(some ⟨b3,0,none⟩),1,[((4:Int),false,false)],s4,o5⟩,Z,Z,Z⟩)
  ·refine a6 ?_
   refine zpk [6] 10 ?_
   exact zad Tryz.func160 Z Z (.inl ⟨⟨(some ⟨b6,0,none⟩),1,[((16:Int),false,false)],s7,o8⟩,Z,Z,Z⟩)
  ·refine a6 ?_
   refine zpk [5] 10 ?_
   exact zad Tryz.func160 Z Z (.inl ⟨⟨(some ⟨b9,0,none⟩),1,[((0:Int),true,false)],s10,o11⟩,Z,Z,Z⟩)
  ·refine a6 ?_
   refine zpk [4] 10 ?_
   exact zad Tryz.func160 Z Z (.inl ⟨⟨(some ⟨b12,0,none⟩),1,[((0:Int),true,false)],s13,o14⟩,Z,Z,Z⟩)
  ·refine a6 ?_
   refine zpk [3] 10 ?_
   exact zad Tryz.func160 Z Z (.inl ⟨⟨(some ⟨b15,0,none⟩),1,[((0:Int),true,false)],s16,o17⟩,Z,Z,Z⟩)
  ·refine a6 ?_
   refine zpk [2] 10 ?_
   exact zad Tryz.func160 Z Z (.inl ⟨⟨(some ⟨b18,0,none⟩),2,[((2:Int),false,false),((0:Int),true,false)],s19,o20⟩,Z,Z,Z⟩)
  ·refine a6 ?_
   refine zpk [1] 10 ?_
   exact zad Tryz.func160 Z Z (.inl ⟨⟨(some ⟨b21,0,none⟩),3,[((0:Int),true,false),((0:Int),true,false),((20:Int),false,false)],s22,o23⟩,Z,Z,Z⟩)
  ·refine a6 ?_
   refine zpk [0] 10 ?_
   exact zad Tryz.func160 Z Z (.inl ⟨⟨(some ⟨b24,0,none⟩),1,[((0:Int),false,true)],s25,o26⟩,Z,Z,Z⟩)
 ·refine a6 ?_
  refine zpk [] 10 ?_
  exact zad Tryz.func160 Z Z (.inr ⟨by simp only [zGb] at hk; simp [ptsF,hk],by simp only [zGb] at hk; simp [atK,hk,zc3],Z⟩)
theorem zvm (s:yB) (hs:s.length≤140737488355328) :
  SCalls Tryz.prog 227 [str s] w0 base (H) (fun v H' => ∃ b:Bool,(b=true↔TxOk s)∧v = .bool b∧H' = H):=by
 refine zaa (n:=21) Tryz.func227 Z Z Z fun cs => ?_
 refine a10 ?_
 refine zbM (fun (i:Nat) => [(0,str s),(3,vV (i:Int))]) (fun i => H) (fun i => i≤s.length∧(Tx s 0↔Tx s i)) (fun i => s.length - i) 0 (⟨zDq _,Iff.rfl⟩) ⟨Z,Z,trivial⟩ Z ?_
 rintro i ⟨hi,htx⟩ ihL1
 have hbi:=(s.getD i 0).toNat_lt
 refine a5 ?_
 refine zbu (l:=s) Z zg0 Z Z<|a2 ?_
 refine zac Z ?_ ?_
 ·intro hc1
  try dsimp only at hc1
  refine a7 ?_
  refine zbD (l:=s) i Z kQ Z zg0 Z Z Z ?_
  have hB1:=zeh (s.getD i 0)
  refine zay (z:=((s.getD i 0).toNat:Int)) Z Z zg0 Z Z (zcG _)<|a8 ?_
  refine zbu (l:=s) Z zg0 Z Z<|a2 ?_
  refine zac Z ?_ ?_
  ·intro hc2
   try dsimp only at hc2
   refine a4 ?_
   exact zad Tryz.func227 Z Z (⟨_,⟨fun h => (by cases h),fun h => absurd ((Tx.inv kQ).1 (htx.1 h.1)).le kQ⟩,Z,Z⟩)
  ·intro hc2
   try dsimp only at hc2
   refine a2 ?_
   refine ihL1 (i + (1 + ((s.getD i 0).toNat))) (⟨by omega,htx.trans (Tx.inv kQ)⟩) kQ _ ?_
   exact zen
 ·intro hc1
  try dsimp only at hc1
  refine a4 ?_
  refine zjy (a:=s) (b:=[]) zg0 Z Z Z<|a2 ?_
  exact zad Tryz.func227 Z Z (⟨_,⟨fun h => ⟨htx.2 (by have e:i=s.length:=kQ; rw [e]; exact .done),zDm (by simpa using h)⟩,fun h => by simpa using h.2⟩,Z,Z⟩)
theorem zwJ (s:yB) (hs:s.length≤140737488355328) :
  PCalls Tryz.prog 228 [str s] w0 base (H) (fun v H' => ∃ n r:yB,s=n++r∧NmOk n∧v=str n∧H' = H) (fun ch H' => (¬ ∃ n r,s=n++r∧NmOk n)∧ch=[{ v:=.iface 427 (.agg #[]),recovered:=false }]∧H' = H):=by
 refine PCalls.of_walk (n:=34) Tryz.func228 Z Z Z fun cs => ?_
 refine a10 ?_
 refine zbM (fun (i:Nat) => [(0,str s),(2,str []),(3,vV (i:Int))]) (fun i => H) (fun i => i≤600∧NfAt s i) (fun i => 600 - i) 0 (⟨by omega,NfAt.zero s⟩) ⟨Z,Z,Z,trivial⟩ Z ?_
 rintro i ⟨hi,hnf⟩ ihL1
 have hbi:=(s.getD i 0).toNat_lt
 refine a5 ?_
 refine zbu (l:=s) Z zg0 Z Z<|a2 ?_
 refine zjn 3 9 [(12,.bool (decide (((i:Int) < (s.length:Int))∧((i:Int) < 255)))),(0,str s),(2,str []),(3,vV (i:Int))] ?_
 skip
 refine a1 ?_
 refine zac Z ?_ ?_
 ·intro hc1
  try dsimp only at hc1
  refine a7 ?_
  refine zbD (l:=s) i Z kQ Z zg0 Z Z Z<|a2 ?_
  refine zac Z ?_ ?_
  ·intro hc2
   try dsimp only at hc2
   refine a6 ?_
   refine zb7 (l:=s) 0 (i + 1) Z (zab Z Z) kQ kQ Z zg0 Z Z<|a5 ?_
   refine zca Z (zgN (subl s 0 (i + 1)) (by rw [zal kQ]; omega)) ?_
   rintro _ _ ⟨e1,hck2,rfl,hHq⟩
   obtain rfl:=hHq.symm
   refine a2 ?_
   refine zac Z ?_ ?_
   ·intro hc3
    try dsimp only at hc3
    refine a5 ?_
    refine zC3 ?_
    exact zad Tryz.func228 Z Z (⟨_,s.drop (i + 1),by rw [zbK,zDB],hck2.1 hc3,Z,Z⟩)
   ·intro hc3
    try dsimp only at hc3
    refine a3 ?_
    refine zak (cs:=[]) zgB zg0 Z Z Z<|zdx Z Z zg0 Z Z<|zgd zg0 Z ?_
    exact zm3 Tryz.func228 (⟨hnf.bad kQ (fun h9 => hc3 (hck2.2 h9)),Z,Z⟩)
  ·intro hc2
   try dsimp only at hc2
   refine a6 ?_
   refine zbD (l:=s) i Z kQ Z zg0 Z Z Z ?_
   have hB3:=zeh (s.getD i 0)
   refine zay (z:=((s.getD i 0).toNat:Int)) Z Z zg0 Z Z (zcG _)<|a4 ?_
   refine ihL1 (i + (1 + ((s.getD i 0).toNat))) (⟨by omega,hnf.step kQ⟩) kQ _ ?_
   exact zen
 ·intro hc1
  try dsimp only at hc1
  refine a2 ?_
  refine zak (cs:=[]) zgB zg0 Z Z Z<|zdx Z Z zg0 Z Z<|zgd zg0 Z ?_
  exact zm3 Tryz.func228 (⟨hnf.over (by first | omega | (simp at hc1; omega)),Z,Z⟩)
theorem zkb {b c:Nat}{x y:Value} :
  DCalls Tryz.prog 226 [pB b,pB c] w0 base ([(b,.cells #[x] 321 (0,0))]::[(c,.cells #[y] 4 (0,0))]::H) .returning (fun m' H' => m' = .returning∧H' = [(b,.cells #[x] 321 (0,0))]::[(c,.cells #[y] 4 (0,0))]::H):=by
 refine DCalls.of_walk (n:=15) Tryz.func226 Z Z Z fun fr cs => ?_
 refine a2 ?_
 refine zdW Z<|a6 ?_
 refine zdf (u:=.tuple #[.agg #[],.bool false]) zg0 Z Z (fun w => by kernel_rfl)<|a3 ?_
 refine AtL.alloc zjY (cs:=#[]) Z zg0 Z ?_
 intro b1
 refine a12 ?_
 refine zer Z zg0 Z Z<|a3 ?_
 refine zhF Z<|zpk [1,2] 3 ?_
 exact zed (vs:=[]) Tryz.func226 Z trivial (⟨Z,Z⟩)
theorem zhf {b c:Nat}{x y:Value} :
  DCalls Tryz.prog 226 [pB b,pB c] w0 base ([(b,.cells #[x] 321 (0,0))]::[(c,.cells #[y] 4 (0,0))]::H) (.panicking [{ v:=.iface 427 (.agg #[]),recovered:=false }]) (fun m' H' => m' = .returning∧H' = [(b,.cells #[.slice none 0 0] 321 (0,0))]::[(c,.cells #[.bool false] 4 (0,0))]::H):=by
 refine DCalls.of_walk (n:=15) Tryz.func226 Z Z Z fun fr cs => ?_
 refine a2 ?_
 refine zfS Z<|a6 ?_
 refine zdf (u:=.tuple #[.agg #[],.bool true]) zg0 Z Z (fun w => by kernel_rfl)<|a3 ?_
 refine AtL.alloc zjY (cs:=#[]) Z zg0 Z ?_
 intro b1
 refine a13 ?_
 refine zbv Z<|zpk [1,2] 3 ?_
 exact zed (vs:=[]) Tryz.func226 Z trivial (⟨Z,Z⟩)
set_option maxHeartbeats 1000000 in
theorem zoH (t:Int) (s:yB) (hs:s.length≤140737488355328) :
  SCalls Tryz.prog 153 [vV t,str s] w0 base (H) (fun v H' => (∃ o:Sl zdI 400,DtP t s o.l∧v = .tuple #[.slice o.A o.l.length o.C,.bool true]∧H' = o.s::H)∨(∃ v0:Value,(¬ ∃ l,DtP t s l)∧v = .tuple #[v0,.bool false]∧H' = H)):=by
 refine zaa (n:=72) Tryz.func153 Z Z Z fun cs => ?_
 refine a2 ?_
 refine AtL.alloc zp8 (cs:=#[.slice none 0 0]) Z zg0 Z ?_
 intro b1
 refine AtL.alloc zvk (cs:=#[.bool false]) Z zg0 Z ?_
 intro b2
 refine a4 ?_
 refine zca Z (zoZ t) ?_
 rintro _ _ (⟨⟨A3,C4,ps5,s6,o7⟩,hps8,rfl,rfl⟩ | ⟨hps8,rfl,rfl⟩)
 ·replace hps8:ptsF t=some ps5:=hps8
  have hps8k:=zx2 hps8
  have hps8l:=hps8k.2.1
  refine a16 ?_
  refine zbV zg0 Z Z Z<|zfU Z zg0 Z Z Z<|a9 ?_
  refine At.nil<|zpk [0,3,2,1] 4 ?_
  refine zcd (fun (i:Nat) (s2:yB) (x:Sl zdI 400) => [(1,str s2),(4,pB b1),(5,pB b2),(22,.slice A3 ps5.length C4),(23,vV (ps5.length:Int)),(24,vV (i:Int))]) (fun i s2 x => x.s::[(b1,.cells #[.slice x.A x.l.length x.C] 321 (0,0))]::[(b2,.cells #[.bool false] 4 (0,0))]::s6::H) (fun i s2 x => i≤ps5.length∧SpAt ps5 s x.l (ps5.drop i) s2∧s2.length≤s.length∧x.l.length=i) (fun i s2 x => ps5.length - i) 0 s Sl.nil (⟨zDq _,SpAt.begin _ _,zDe _,Z⟩) ⟨Z,Z,Z,Z,Z,Z,trivial⟩ Z ?_
  rintro i s2 x ⟨hi,hsa,hsl,hxi⟩ ihL1
  have hcap:=Own.cap_le x.own
  refine a5 ?_
  refine zac Z ?_ ?_
  ·intro hc2
   try dsimp only at hc2
   refine a4 ?_
   have hil:i < ps5.length:=by omega
   have hdr0:=zbS (d:=rDb) hil
   rcases hps8k.1 _ (zaA (d:=rDb) hil) with ⟨hz0,hz1,hp2⟩ | hp | hp
   ·have hb1:(ps5.getD i rDb).2.1=false:=by rw [hp2]
    have hb2:(ps5.getD i rDb).2.2=false:=by rw [hp2]
    have hdr:ps5.drop i=(((ps5.getD i rDb).1.toNat:Int),false,false)::ps5.drop (i + 1):=by rw [hdr0]; congr 1; rw [show (((ps5.getD i rDb).1.toNat:Nat):Int)=(ps5.getD i rDb).1 by omega]; exact Prod.ext rfl hp2
    refine a1 ?_
    refine zah i (o7.rd (i:=3) Z) Z zb9 zg0 Z Z Z Z kQ ?_
    refine zaM (n:=0) (o7.rd (i:=3) Z) (getD_some rDb kQ) Z zez zg0 Z Z<|AtL.alloc zbb (cs:=#[vV 0,.bool false,.bool false]) Z zg0 Z ?_
    intro b9
    refine a15 ?_
    refine zaK (t:=33) Z ?_ ?_
    ·intro hs33
     have hs33:((ps5.getD i rDb).2.2)=true:=hs33
     exact absurd (hs33.symm.trans hb2) kE
    ·intro hs33
     have hs33:((ps5.getD i rDb).2.2)=false:=hs33
     refine a12 ?_
     refine zao false Z hb1<|a5 ?_
     refine zaK (t:=48) Z ?_ ?_
     ·intro hs48
      have hs48:((ps5.getD i rDb).2.2)=true:=hs48
      exact absurd (hs48.symm.trans hb2) kE
     ·intro hs48
      have hs48:((ps5.getD i rDb).2.2)=false:=hs48
      refine a2 ?_
      refine zbu (l:=s2) Z (.inr ⟨_,_,_,Z,Z,Z,Z⟩) Z Z<|a4 ?_
      refine zac Z ?_ ?_
      ·intro hc5
       try dsimp only at hc5
       refine a1 ?_
       refine zak (cs:=[]) zgB zg0 Z Z Z<|zdx Z Z zg0 Z Z<|zgd zg0 Z<|zpk [2,3,0,1,4] 5 ?_
       refine zbk zey Z Z zhf ?_
       rintro _ _ ⟨rfl,rfl⟩
       exact zaW (vs:=[.slice none 0 0,.bool false]) [] 5 Z Z Tryz.func153 Z ⟨⟨_,Z,LoadsTo.flat zdC (Cell.own 0 0 Z Z Z)⟩,⟨_,Z,LoadsTo.flat zeQ (Cell.own 1 0 Z Z Z)⟩,trivial⟩ (.inr ⟨_,(by unfold DtP; rw [hps8]; exact zq1 (by rw [← hdr]; exact hsa) kQ),Z,Z⟩)
      ·intro hc5
       try dsimp only at hc5
       refine a3 ?_
       refine zaN (es:=[7,8,9]) (pv:=[(0,.slice x.A x.l.length x.C),(1,str s2),(2,vV ((ps5.getD i rDb).1)),(3,str (subl s2 0 (Int.toNat ((ps5.getD i rDb).1)))),(4,.pointer (some ⟨b9,1,none⟩)),(5,.bool ((ps5.getD i rDb).2.1)),(6,.agg #[str (subl s2 0 (Int.toNat ((ps5.getD i rDb).1))),.bool ((ps5.getD i rDb).2.1)])]) zaz kW kW kW ?_
       refine ⟨zj2<|zjz<|⟨zpr Z Z Z (zcZ (l:=s2) 0 (Int.toNat ((ps5.getD i rDb).1)) Z (zab Z kQ) kQ kQ Z Z),zj2<|⟨zpr Z Z Z (zcc (cs:=[str (subl s2 0 (Int.toNat ((ps5.getD i rDb).1))),.bool ((ps5.getD i rDb).2.1)]) zgC Z Z),trivial⟩⟩,Z,Z,by kernel_rfl,_,Z,Z,Z,_,ze6 zdI (l:=([(subl s2 0 (Int.toNat ((ps5.getD i rDb).1)),(ps5.getD i rDb).2.1)]:List (yB×Bool))) (za2 (cs:=[str (subl s2 0 (Int.toNat ((ps5.getD i rDb).1))),.bool ((ps5.getD i rDb).2.1)]) Z zdA zfW Z Z Z Z) Z Z kT,?_⟩
       rintro _ _ ⟨b10,s11,o12,rfl,rfl⟩
       refine ⟨[],Z,?_⟩
       refine ⟨zjz<|zk4<|zjk<|zjk<|trivial,Z,Z,by kernel_rfl,_,Z,Z,Z,_,zc1 (l:=x.l) (news:=[(subl s2 0 (Int.toNat ((ps5.getD i rDb).1)),(ps5.getD i rDb).2.1)]) 2 zkR Z x.own (o12.rd (i:=0) Z) (by first | omega | (simp only [zC6,zC7,zC8]; omega) | (simp; done) | (simp; omega)) Z Z,?_⟩
       rintro _ _ ⟨A13,C14,s15,o16,rfl,rfl⟩
       refine ⟨[],Z,?_⟩
       refine ⟨zk4<|zjk<|zjk<|zjk<|trivial,Z,Z,by kernel_rfl,_,Z,Z,Z,_,zaS (H':=s11::O6 b9 ((ps5.getD i rDb).1) ((ps5.getD i rDb).2.1) ((ps5.getD i rDb).2.2)::s15::[(b1,.cells #[.slice A13 (x.l++[(subl s2 0 (Int.toNat ((ps5.getD i rDb).1)),(ps5.getD i rDb).2.1)]).length C14] 321 (0,0))]::[(b2,.cells #[.bool false] 4 (0,0))]::s6::H) 3 0 zkP Z Z Z Z Z Z Z Z Z,?_⟩
       rintro _ _ ⟨rfl,rfl⟩
       refine ⟨[],Z,?_⟩
       refine ⟨zk4<|zjk<|zjk<|zjk<|trivial,by kernel_rfl,?_⟩
       refine At.mono (E':=[(1,str s2),(4,pB b1),(5,pB b2),(10,vV ((ps5.getD i rDb).1)),(22,.slice A3 ps5.length C4),(23,vV (ps5.length:Int)),(24,vV (i:Int))]) ⟨Z,Z,Z,Z,Z,Z,Z,trivial⟩<|a3 ?_
       refine zb7 (l:=s2) (Int.toNat ((ps5.getD i rDb).1)) s2.length (zab Z kQ) Z kQ kQ Z zg0 Z Z<|a7 ?_
       refine zpk [2,3,4,5] 6 ?_
       refine ihL1 (i + 1) (subl s2 (Int.toNat ((ps5.getD i rDb).1)) s2.length) (⟨A13,C14,x.l++[(subl s2 0 (Int.toNat ((ps5.getD i rDb).1)),(ps5.getD i rDb).2.1)],s15,o16⟩) (⟨by omega,(by dsimp only; rw [hb1]; exact SpAt.size (by rw [← hdr]; exact hsa) kQ),by rw [zal kQ]; omega,by simp [hxi]⟩) kQ _ ?_
       exact zen
   ·have hb1:(ps5.getD i rDb).2.1=true:=by rw [hp]
    have hb2:(ps5.getD i rDb).2.2=false:=by rw [hp]
    have hdr:ps5.drop i=(0,true,false)::ps5.drop (i + 1):=by rw [hdr0,hp]
    refine a1 ?_
    refine zah i (o7.rd (i:=3) Z) Z zb9 zg0 Z Z Z Z kQ ?_
    refine zaM (n:=0) (o7.rd (i:=3) Z) (getD_some rDb kQ) Z zez zg0 Z Z<|AtL.alloc zbb (cs:=#[vV 0,.bool false,.bool false]) Z zg0 Z ?_
    intro b24
    refine a15 ?_
    refine zaK (t:=33) Z ?_ ?_
    ·intro hs33
     have hs33:((ps5.getD i rDb).2.2)=true:=hs33
     exact absurd (hs33.symm.trans hb2) kE
    ·intro hs33
     have hs33:((ps5.getD i rDb).2.2)=false:=hs33
     refine a12 ?_
     refine zao true Z hb1<|a2 ?_
     refine zuZ zqc zg0 Z Z (zwJ s2 kQ) ?_ ?_
     ·rintro _ _ ⟨hsp27,rfl,rfl⟩
      refine zpk [2,3,0,1,4] 5 ?_
      refine zbk zey Z Z zhf ?_
      rintro _ _ ⟨rfl,rfl⟩
      exact zaW (vs:=[.slice none 0 0,.bool false]) [] 5 Z Z Tryz.func153 Z ⟨⟨_,Z,LoadsTo.flat zdC (Cell.own 0 0 Z Z Z)⟩,⟨_,Z,LoadsTo.flat zeQ (Cell.own 1 0 Z Z Z)⟩,trivial⟩ (.inr ⟨_,(by unfold DtP; rw [hps8]; exact zoe (by rw [← hdr]; exact hsa) hsp27),Z,Z⟩)
     rintro _ _ ⟨n25,r26,hsp27,hno28,rfl,rfl⟩
     refine zbu (l:=n25) Z zg0 Z Z<|a4 ?_
     have hfl:=zDh List.length hsp27; rw [zC6] at hfl
     refine zaN (es:=[7,8,9]) (pv:=[(0,.slice x.A x.l.length x.C),(1,str s2),(2,vV (n25.length:Int)),(3,str (subl s2 0 n25.length)),(4,.pointer (some ⟨b24,1,none⟩)),(5,.bool ((ps5.getD i rDb).2.1)),(6,.agg #[str (subl s2 0 n25.length),.bool ((ps5.getD i rDb).2.1)])]) zaz kW kW kW ?_
     refine ⟨zj2<|zjz<|⟨zpr Z Z Z (zcZ (l:=s2) 0 n25.length Z (zab Z Z) kQ kQ Z Z),zj2<|⟨zpr Z Z Z (zcc (cs:=[str (subl s2 0 n25.length),.bool ((ps5.getD i rDb).2.1)]) zgC Z Z),trivial⟩⟩,Z,Z,by kernel_rfl,_,Z,Z,Z,_,ze6 zdI (l:=([(subl s2 0 n25.length,(ps5.getD i rDb).2.1)]:List (yB×Bool))) (za2 (cs:=[str (subl s2 0 n25.length),.bool ((ps5.getD i rDb).2.1)]) Z zdA zfW Z Z Z Z) Z Z kT,?_⟩
     rintro _ _ ⟨b29,s30,o31,rfl,rfl⟩
     refine ⟨[],Z,?_⟩
     refine ⟨zjz<|zk4<|zjk<|zjk<|trivial,Z,Z,by kernel_rfl,_,Z,Z,Z,_,zc1 (l:=x.l) (news:=[(subl s2 0 n25.length,(ps5.getD i rDb).2.1)]) 2 zkR Z x.own (o31.rd (i:=0) Z) (by first | omega | (simp only [zC6,zC7,zC8]; omega) | (simp; done) | (simp; omega)) Z Z,?_⟩
     rintro _ _ ⟨A32,C33,s34,o35,rfl,rfl⟩
     refine ⟨[],Z,?_⟩
     refine ⟨zk4<|zjk<|zjk<|zjk<|trivial,Z,Z,by kernel_rfl,_,Z,Z,Z,_,zaS (H':=s30::O6 b24 ((ps5.getD i rDb).1) ((ps5.getD i rDb).2.1) ((ps5.getD i rDb).2.2)::s34::[(b1,.cells #[.slice A32 (x.l++[(subl s2 0 n25.length,(ps5.getD i rDb).2.1)]).length C33] 321 (0,0))]::[(b2,.cells #[.bool false] 4 (0,0))]::s6::H) 3 0 zkP Z Z Z Z Z Z Z Z Z,?_⟩
     rintro _ _ ⟨rfl,rfl⟩
     refine ⟨[],Z,?_⟩
     refine ⟨zk4<|zjk<|zjk<|zjk<|trivial,by kernel_rfl,?_⟩
     refine At.mono (E':=[(1,str s2),(4,pB b1),(5,pB b2),(10,vV (n25.length:Int)),(22,.slice A3 ps5.length C4),(23,vV (ps5.length:Int)),(24,vV (i:Int))]) ⟨Z,Z,Z,Z,Z,Z,Z,trivial⟩<|a3 ?_
     refine zb7 (l:=s2) n25.length s2.length (zab Z Z) Z kQ kQ Z zg0 Z Z<|a7 ?_
     refine zpk [2,3,4,5] 6 ?_
     refine ihL1 (i + 1) (subl s2 n25.length s2.length) (⟨A32,C33,x.l++[(subl s2 0 n25.length,(ps5.getD i rDb).2.1)],s34,o35⟩) (⟨by omega,(by dsimp only; rw [hb1]; exact SpAt.name (by rw [← hdr]; exact hsa) hsp27 hno28),by rw [zal kQ]; omega,by simp [hxi]⟩) kQ _ ?_
     exact zen
   ·have hb1:(ps5.getD i rDb).2.1=false:=by rw [hp]
    have hb2:(ps5.getD i rDb).2.2=true:=by rw [hp]
    have hdn:ps5.drop (i + 1)=[]:=zDn (Nat.le_of_eq (hps8k.2.2 i hil hp).symm)
    have hdr:ps5.drop i=[(0,false,true)]:=by rw [hdr0,hp,hdn]
    refine a1 ?_
    refine zah i (o7.rd (i:=3) Z) Z zb9 zg0 Z Z Z Z kQ ?_
    refine zaM (n:=0) (o7.rd (i:=3) Z) (getD_some rDb kQ) Z zez zg0 Z Z<|AtL.alloc zbb (cs:=#[vV 0,.bool false,.bool false]) Z zg0 Z ?_
    intro b43
    refine a15 ?_
    refine zaK (t:=33) Z ?_ ?_
    ·intro hs33
     have hs33:((ps5.getD i rDb).2.2)=true:=hs33
     refine a1 ?_
     refine zca Z (zvm s2 kQ) ?_
     rintro _ _ ⟨b44,htx45,rfl,rfl⟩
     refine a3 ?_
     refine zaT Z ?_ ?_
     ·intro hc3
      have hc3:b44=true:=hc3
      refine a2 ?_
      refine zbu (l:=s2) Z zg0 Z Z<|a4 ?_
      refine zaN (es:=[7,8,9]) (pv:=[(0,.slice x.A x.l.length x.C),(1,str s2),(2,vV (s2.length:Int)),(3,str (subl s2 0 s2.length)),(4,.pointer (some ⟨b43,1,none⟩)),(5,.bool ((ps5.getD i rDb).2.1)),(6,.agg #[str (subl s2 0 s2.length),.bool ((ps5.getD i rDb).2.1)])]) zaz kW kW kW ?_
      refine ⟨zj2<|zjz<|⟨zpr Z Z Z (zcZ (l:=s2) 0 s2.length Z (zab Z Z) kQ kQ Z Z),zj2<|⟨zpr Z Z Z (zcc (cs:=[str (subl s2 0 s2.length),.bool ((ps5.getD i rDb).2.1)]) zgC Z Z),trivial⟩⟩,Z,Z,by kernel_rfl,_,Z,Z,Z,_,ze6 zdI (l:=([(subl s2 0 s2.length,(ps5.getD i rDb).2.1)]:List (yB×Bool))) (za2 (cs:=[str (subl s2 0 s2.length),.bool ((ps5.getD i rDb).2.1)]) Z zdA zfW Z Z Z Z) Z Z kT,?_⟩
      rintro _ _ ⟨b46,s47,o48,rfl,rfl⟩
      refine ⟨[],Z,?_⟩
      refine ⟨zjz<|zk4<|zjk<|zjk<|trivial,Z,Z,by kernel_rfl,_,Z,Z,Z,_,zc1 (l:=x.l) (news:=[(subl s2 0 s2.length,(ps5.getD i rDb).2.1)]) 2 zkR Z x.own (o48.rd (i:=0) Z) (by first | omega | (simp only [zC6,zC7,zC8]; omega) | (simp; done) | (simp; omega)) Z Z,?_⟩
      rintro _ _ ⟨A49,C50,s51,o52,rfl,rfl⟩
      refine ⟨[],Z,?_⟩
      refine ⟨zk4<|zjk<|zjk<|zjk<|trivial,Z,Z,by kernel_rfl,_,Z,Z,Z,_,zaS (H':=s47::O6 b43 ((ps5.getD i rDb).1) ((ps5.getD i rDb).2.1) ((ps5.getD i rDb).2.2)::s51::[(b1,.cells #[.slice A49 (x.l++[(subl s2 0 s2.length,(ps5.getD i rDb).2.1)]).length C50] 321 (0,0))]::[(b2,.cells #[.bool false] 4 (0,0))]::s6::H) 3 0 zkP Z Z Z Z Z Z Z Z Z,?_⟩
      rintro _ _ ⟨rfl,rfl⟩
      refine ⟨[],Z,?_⟩
      refine ⟨zk4<|zjk<|zjk<|zjk<|trivial,by kernel_rfl,?_⟩
      refine At.mono (E':=[(1,str s2),(4,pB b1),(5,pB b2),(10,vV (s2.length:Int)),(22,.slice A3 ps5.length C4),(23,vV (ps5.length:Int)),(24,vV (i:Int))]) ⟨Z,Z,Z,Z,Z,Z,Z,trivial⟩<|a3 ?_
      refine zb7 (l:=s2) s2.length s2.length (zab Z Z) Z kQ kQ Z zg0 Z Z<|a7 ?_
      refine zpk [2,3,4,5] 6 ?_
      refine ihL1 (i + 1) (subl s2 s2.length s2.length) (⟨A49,C50,x.l++[(subl s2 0 s2.length,(ps5.getD i rDb).2.1)],s51,o52⟩) (⟨by omega,(by dsimp only; rw [hb1,hdn]; exact SpAt.rest (by rw [← hdr]; exact hsa) (htx45.1 (by assumption))),by rw [zal kQ]; omega,by simp [hxi]⟩) kQ _ ?_
      exact zen
     ·intro hc3
      have hc3:b44=false:=hc3
      refine a6 ?_
      refine zao false Z hb1<|a5 ?_
      refine zaK (t:=48) Z ?_ ?_
      ·intro hs48
       have hs48:((ps5.getD i rDb).2.2)=true:=hs48
       refine a9 ?_
       refine zak (cs:=[]) zgB zg0 Z Z Z<|zdx Z Z zg0 Z Z<|zgd zg0 Z<|zpk [2,3,0,1,4] 5 ?_
       refine zbk zey Z Z zhf ?_
       rintro _ _ ⟨rfl,rfl⟩
       exact zaW (vs:=[.slice none 0 0,.bool false]) [] 5 Z Z Tryz.func153 Z ⟨⟨_,Z,LoadsTo.flat zdC (Cell.own 0 0 Z Z Z)⟩,⟨_,Z,LoadsTo.flat zeQ (Cell.own 1 0 Z Z Z)⟩,trivial⟩ (.inr ⟨_,(by unfold DtP; rw [hps8]; exact zod (by rw [← hdr]; exact hsa) (fun h9 => by have h8:=htx45.2 h9; first | exact absurd (h8.symm.trans hc3) kE | (rw [h8] at hc3; exact absurd hc3 kE) | (simp [h8] at hc3))),Z,Z⟩)
      ·intro hs48
       have hs48:((ps5.getD i rDb).2.2)=false:=hs48
       exact absurd (hs48.symm.trans hb2) kE
    ·intro hs33
     have hs33:((ps5.getD i rDb).2.2)=false:=hs33
     exact absurd (hs33.symm.trans hb2) kE
  ·intro hc2
   try dsimp only at hc2
   refine a2 ?_
   rcases zGa (s2=[]) with hs0 | hs0
   ·refine a3 ?_
    refine zfb (a:=s2) (b:=[]) zg0 Z Z Z<|a3 ?_
    refine zbv Z<|zpk [1,2,0,3] 4 ?_
    refine zbk zey Z Z zkb ?_
    rintro _ _ ⟨rfl,rfl⟩
    exact zaW (vs:=[.slice x.A x.l.length x.C,.bool (decide (s2=[]))]) [2] 4 Z Z Tryz.func153 Z ⟨⟨_,Z,LoadsTo.flat zdC (Cell.own 0 0 Z Z Z)⟩,⟨_,Z,LoadsTo.flat zeQ (Cell.own 1 0 Z Z Z)⟩,trivial⟩ (.inl ⟨x,(by unfold DtP; rw [hps8]; exact (SpAt.over (ps0:=ps5) (s0:=s) (s:=s2) (cut:=x.l) (by have h9:=hsa; rw [zDn kQ] at h9; exact h9)).1 hs0),by rw [zDI hs0]; rfl,Z⟩)
   ·refine a3 ?_
    refine zfb (a:=s2) (b:=[]) zg0 Z Z Z<|a3 ?_
    refine zbv Z<|zpk [1,2,0,3] 4 ?_
    refine zbk zey Z Z zkb ?_
    rintro _ _ ⟨rfl,rfl⟩
    exact zaW (vs:=[.slice x.A x.l.length x.C,.bool (decide (s2=[]))]) [] 4 Z Z Tryz.func153 Z ⟨⟨_,Z,LoadsTo.flat zdC (Cell.own 0 0 Z Z Z)⟩,⟨_,Z,LoadsTo.flat zeQ (Cell.own 1 0 Z Z Z)⟩,trivial⟩ (.inr ⟨_,(by unfold DtP; rw [hps8]; exact (SpAt.over (ps0:=ps5) (s0:=s) (s:=s2) (cut:=x.l) (by have h9:=hsa; rw [zDn kQ] at h9; exact h9)).2 hs0),by rw [zDl hs0]; rfl,Z⟩)
 ·refine a16 ?_
  refine zak (cs:=[str s,.bool false]) zgC zg0 Z Z Z<|zae (cs:=[str s,.bool false]) Z zdA zfW Z Z zg0 Z Z Z ?_
  intro b60
  refine zau zdI (l:=([(s,false)]:List (yB×Bool))) Z Z kT ?_
  intro s61 o62
  refine a3 ?_
  exact zaE (vs:=[.slice (some ⟨b60,0,none⟩) [(s,false)].length 1,.bool true]) [0] 3 Z Z Tryz.func153 Z ⟨⟨_,Z,LoadsTo.flat zdC (Cell.own 2 0 Z Z Z)⟩,⟨_,Z,LoadsTo.flat zeQ (Cell.own 1 0 Z Z Z)⟩,trivial⟩ (.inl ⟨⟨(some ⟨b60,0,none⟩),1,[(s,false)],s61,o62⟩,(by unfold DtP; rw [hps8]),Z,Z⟩)
theorem zrN (h:DOk t s):SCalls Tryz.prog 153 [int t,str s] w0 base H (fun v H' => ∃ o:Sl zdI 400,DtP t s o.l∧v = .tuple #[.slice o.A o.l.length o.C,.bool true]∧H' = o.s::H) :=
 (zoH t s (by have:=h.2.1; omega)).mono fun v H' h1 => h1.elim id fun ⟨_,h2,_⟩ => absurd h.2.2 h2
theorem ziS (t:Int) (s:yB) (hs:s.length≤140737488355328) :
  SCalls Tryz.prog 81 [vV t,str s] w0 base (H) (fun v H' => ∃ e:Int,(e=0↔DOk t s)∧v=int e∧H' = H):=by
 refine zaa (n:=26) Tryz.func81 Z Z Z fun cs => ?_
 refine a11 ?_
 refine zjn 3 10 [(13,.bool (decide (((t:Int) < 0)∨(65535 < (t:Int))))),(0,vV t),(1,str s)] ?_
 skip
 refine a2 ?_
 refine zac Z ?_ ?_
 ·intro hc1
  try dsimp only at hc1
  refine a4 ?_
  exact zad Tryz.func81 Z Z (⟨_,⟨fun h => (by cases h),fun h => by obtain ⟨h1,h2,_⟩:=h; first | omega | (simp at hc1; omega)⟩,Z,Z⟩)
 ·intro hc1
  try dsimp only at hc1
  refine a3 ?_
  refine zbu (l:=s) Z zg0 Z Z<|a3 ?_
  refine zac Z ?_ ?_
  ·intro hc2
   try dsimp only at hc2
   refine a4 ?_
   exact zad Tryz.func81 Z Z (⟨_,⟨fun h => (by cases h),fun h => by obtain ⟨h1,h2,_⟩:=h; first | omega | (simp at hc1; omega)⟩,Z,Z⟩)
  ·intro hc2
   try dsimp only at hc2
   refine a7 ?_
   refine zca Z (zoH t s kQ) ?_
   rintro _ _ (⟨⟨A1,C2,l3,s4,o5⟩,hsp1,rfl,rfl⟩ | ⟨v9,hsp2,rfl,rfl⟩)
   ·replace hsp1:DtP t s l3:=hsp1
    refine a17 ?_
    refine zpk [] 1 ?_
    exact zad Tryz.func81 Z Z (⟨_,⟨fun _ => ⟨(by first | omega | (simp at hc1; omega)),by omega,_,hsp1⟩,fun _ => Z⟩,Z,Z⟩)
   ·refine a16 ?_
    exact zad Tryz.func81 Z Z (⟨_,⟨fun h => (by cases h),fun h => absurd h.2.2 hsp2⟩,Z,Z⟩)
theorem zki (h:DOk t s):SCalls Tryz.prog 81 [int t,str s] w0 base H (fun v H' => v=int 0∧H' = H) :=
 (ziS t s (by have:=h.2.1; omega)).mono fun v H' ⟨e,h1,h2,h3⟩ => ⟨by rw [h2,h1.2 h],h3⟩
inductive Dp (b:yB) (e:Nat):Nat→List (Int×Bool×Bool)→yB→Prop
  | nil:Dp b e e [] []
  | size {i:Nat}{z:Int}{ps:List (Int×Bool×Bool)}{s d:yB}(hz:(s.length:Int)=z) (hs:Stands b i s) (h:Dp b e (i + s.length) ps d):Dp b e i ((z,false,false)::ps) (s++d)
  | name {i nx k:Nat}{ps:List (Int×Bool×Bool)}{n d:yB}(hn:n.length≤255) (hr:Rn b i i n nx k) (h:Dp b e nx ps d):Dp b e i ((0,true,false)::ps) (n++d)
  | rest {i:Nat}{s:yB}(hs:Stands b i s) (he:i + s.length=e):Dp b e i [(0,false,true)] s
theorem Rn.le {part:Nat}{n:yB}(h:Rn b part i n nx k):i < nx∧nx≤b.length:=by
 induction h with
 | zero h => exact ⟨Nat.lt_succ_self _,h.2⟩
 | lab hl hs _ ih => omega
 | ptr _ _ hs _ _ => have:=hs.2; grind [zam]
theorem Dp.le (h:Dp b e i ps d):i≤e:=by
 induction h with
 | nil => omega
 | size _ _ _ ih => omega
 | name _ hr _ ih => have:=hr.le; omega
 | rest _ he => omega
theorem Dp.app (h:Dp b e i ps d) (c:yB):Dp (b++c) e i ps d:=by
 induction h with
 | nil => exact .nil
 | size hz hs _ ih => exact .size hz (hs.app c) ih
 | name hn hr _ ih => exact .name hn (hr.app c) ih
 | rest hs he => exact .rest (hs.app c) he
theorem zyj (h:Dp b e i [] d):i=e∧d=[]:=by cases h; grind
theorem zAj (h:Dp b e i ((z,false,false)::ps) d):∃ s d',d=s++d'∧(s.length:Int)=z∧Stands b i s∧Dp b e (i + s.length) ps d':=by
 cases h with | size hz hs h => grind
theorem zAl (h:Dp b e i ((0,true,false)::ps) d):∃ n d' nx k,d=n++d'∧n.length≤255∧Rn b i i n nx k∧Dp b e nx ps d':=by
 cases h with | name hn hr h => grind
theorem zAk (h:Dp b e i [(0,false,true)] d):Stands b i d∧i + d.length=e:=by
 cases h with | rest hs he => grind
def RdD (b:yB) (at_ sz:Nat) (t:Int) (d:yB):Prop:=at_ + sz≤b.length∧sz≤65535∧match ptsF t with | none => Stands b at_ d∧d.length=sz | some ps => Dp b (at_ + sz) at_ ps d
theorem RdD.app {at_:Nat}(h:RdD b at_ sz t d) (c:yB):RdD (b++c) at_ sz t d:=by
 obtain ⟨h1,h2,h3⟩:=h
 refine ⟨by rw [zC6]; omega,h2,?_⟩
 cases hp:ptsF t with
 | none => rw [hp] at h3; exact ⟨h3.1.app c,h3.2⟩
 | some ps => rw [hp] at h3; exact h3.app c
theorem RdD.known {at_:Nat}(h:RdD b at_ sz t d) (hp:ptsF t=some ps):Dp b (at_ + sz) at_ ps d:=by
 have h3:=h.2.2
 grind
theorem RdD.raw {at_:Nat}(h:RdD b at_ sz t d) (hp:ptsF t=none):Stands b at_ d∧d.length=sz:=by
 have h3:=h.2.2
 grind
def DwAt (B:β→yB) (n0:Nat) (w:yB) (ps0:List (Int×Bool×Bool)) (s0:yB) (l:List (yB×Bool)):Prop :=
 ∃ ps s s1,Sp ps s l∧(s0=s1++s∧w.length≤s1.length)∧∀ z c e d,Dp (B z++w++c) e (n0 + w.length) ps d→Dp (B z++w++c) e n0 ps0 (s1++d)
theorem DwAt.begin {B:β→yB}{l:List (yB×Bool)}(h:Sp ps s l):DwAt B n0 [] ps s l :=
 ⟨ps,s,[],h,⟨rfl,zDe _⟩,fun z c e d h => h⟩
theorem DwAt.plain {B:β→yB}{l:List (yB×Bool)}(hB:∀ z,(B z).length=n0) (h:DwAt B n0 w ps0 s0 ((s,false)::l)):DwAt B n0 (w++s) ps0 s0 l:=by
 obtain ⟨ps,q,s1,h1,h2,h3⟩:=h
 have hst:∀ z c,Stands (B z++w++(s++c)) (n0 + w.length) s:=fun z c => by
  have:=zeA (B z++w) s c
  grind
 have e1:∀ z c,B z++(w++s)++c=B z++w++(s++c):=fun z c => by simp
 cases h1 with
 | size hz h1 =>
  refine ⟨_,_,s1++s,h1,⟨by grind,by grind⟩,fun z c e d hd => ?_⟩
  rw [e1] at hd ⊢
  rw [zDg s1]
  rw [zC6,← zD3] at hd
  exact h3 z (s++c) e (s++d) (.size hz (hst z c) hd)
 | rest hs =>
  refine ⟨[],[],s1++s,.nil,⟨by grind,by grind⟩,fun z c e d hd => ?_⟩
  rw [e1] at hd ⊢
  rw [zC6,← zD3] at hd
  obtain ⟨h4,rfl⟩:=zyj hd
  rw [zDO]
  exact h3 z (s++c) e s (.rest (hst z c) h4)
theorem DwAt.name {B:β→yB}{n:yB}{l:List (yB×Bool)}(hu:u.length≤n.length) (h:DwAt B n0 w ps0 s0 ((n,true)::l)) (hr:∀ z,∃ k,Rn (B z++w++u) (n0 + w.length) (n0 + w.length) n (n0 + w.length + u.length) k):DwAt B n0 (w++u) ps0 s0 l:=by
 obtain ⟨ps,q,s1,h1,h2,h3⟩:=h
 have e1:∀ z c,B z++(w++u)++c=B z++w++(u++c):=fun z c => by simp
 cases h1 with
 | name hn h1 =>
  refine ⟨_,_,s1++n,h1,⟨by rw [h2.1,zDg],by rw [zC6,zC6]; omega⟩,fun z c e d hd => ?_⟩
  rw [e1] at hd ⊢
  rw [zDg s1]
  rw [zC6,← zD3] at hd
  obtain ⟨_,_,_,h5⟩:=hn
  obtain ⟨k,hr1⟩:=hr z
  have hr2:=hr1.app c
  rw [zDg (B z++w)] at hr2
  exact h3 z (u++c) e (n++d) (.name h5 hr2 hd)
theorem DwAt.over {B:β→yB}(h:DwAt B n0 w ps0 s0 []):w.length≤s0.length∧∀ z c,Dp (B z++w++c) (n0 + w.length) n0 ps0 s0:=by
 obtain ⟨ps,q,s1,h1,h2,h3⟩:=h
 cases h1
 rw [zDO] at h2
 obtain ⟨rfl,h4⟩:=h2
 refine ⟨h4,fun z c => ?_⟩
 have:=h3 z c _ [] .nil
 grind
theorem DwAt.lens {B:β→yB}{z:Bool}{l:List (yB×Bool)}(h:DwAt B n0 w ps0 s0 ((s,z)::l)):s.length≤s0.length∧(z=true→NmOk s):=by
 obtain ⟨ps,q,s1,h1,h2,_⟩:=h
 rw [h2.1]
 cases h1 with
 | size hz h1 => grind
 | name hn h1 => grind
 | rest hs => grind
def DwT (B:β→yB) (n0:Nat) (w:yB) (t:Int) (s0:yB) (l:List (yB×Bool)):Prop:=match ptsF t with
 | none => (l=[(s0,false)]∧w=[])∨(l=[]∧w=s0)
 | some ps => DwAt B n0 w ps s0 l
theorem DwT.begin {B:β→yB}{l:List (yB×Bool)}(h:DtP t s l):DwT B n0 [] t s l:=by
 unfold DwT; unfold DtP at h
 cases hp:ptsF t with
 | none => grind
 | some ps => grind [DwAt.begin]
theorem DwT.plain {B:β→yB}{l:List (yB×Bool)}(hB:∀ z,(B z).length=n0) (h:DwT B n0 w t s0 ((s,false)::l)):DwT B n0 (w++s) t s0 l:=by
 unfold DwT at h ⊢
 cases hp:ptsF t with
 | none =>
  grind
 | some ps => grind [DwAt.plain]
theorem DwT.name {B:β→yB}{n:yB}{l:List (yB×Bool)}(hu:u.length≤n.length) (h:DwT B n0 w t s0 ((n,true)::l)) (hr:∀ z,∃ k,Rn (B z++w++u) (n0 + w.length) (n0 + w.length) n (n0 + w.length + u.length) k):DwT B n0 (w++u) t s0 l:=by
 unfold DwT at h ⊢
 cases hp:ptsF t with
 | none =>
  grind
 | some ps => grind [DwAt.name]
theorem DwT.over {B:β→yB}(hB:∀ z,(B z).length=n0) (hs:s0.length≤65535) (h:DwT B n0 w t s0 []):w.length≤s0.length∧∀ z,RdD (B z++w) n0 w.length t s0:=by
 unfold DwT at h
 cases hp:ptsF t with
 | none =>
  rw [hp] at h
  rcases h with ⟨h1,_⟩ | ⟨_,rfl⟩
  ·cases h1
  ·refine ⟨zDe _,fun z => ⟨by grind,hs,?_⟩⟩
   rw [hp]
   exact ⟨hB z ▸ zeC (B z) w,Z⟩
 | some ps =>
  rw [hp] at h
  obtain ⟨h1,h2⟩:=DwAt.over h
  refine ⟨h1,fun z => ⟨by grind,by omega,?_⟩⟩
  rw [hp]
  have:=h2 z []
  grind
theorem DwT.lens {B:β→yB}{z:Bool}{l:List (yB×Bool)}(h:DwT B n0 w t s0 ((s,z)::l)):s.length≤s0.length∧(z=true→NmOk s):=by
 unfold DwT at h
 cases hp:ptsF t with
 | none =>
  grind
 | some ps => rw [hp] at h; exact DwAt.lens h
theorem DwAt.wlen {B:β→yB}{l:List (yB×Bool)}(h:DwAt B n0 w ps0 s0 l):w.length≤s0.length:=by
 obtain ⟨ps,q,s1,h1,h2,_⟩:=h
 grind
theorem DwT.wlen {B:β→yB}{l:List (yB×Bool)}(h:DwT B n0 w t s0 l):w.length≤s0.length:=by
 unfold DwT at h
 cases hp:ptsF t with
 | none =>
  grind
 | some ps => rw [hp] at h; exact DwAt.wlen h
abbrev Qn3:=yB×Int×Int
variable {qs:List Qn3}
abbrev Rc5:=yB×Int×Int×Int×yB
def QOk (q:Qn3):Prop:=NmOk q.1∧(0≤q.2.1∧q.2.1≤65535)∧(0≤q.2.2∧q.2.2≤65535)
def ROk (x:Rc5):Prop:=NmOk x.1∧(0≤x.2.1∧x.2.1≤65535)∧(0≤x.2.2.1∧x.2.2.1≤65535)∧(0≤x.2.2.2.1∧x.2.2.2.1≤2147483647)∧DOk x.2.1 x.2.2.2.2
theorem NmOk.le {n:yB}(h:NmOk n):n.length≤255:=by obtain ⟨_,_,_,h⟩:=h; exact h
def QAt (b:yB) (i:Nat) (q:Qn3) (nx:Nat):Prop:=∃ j k,Rn b i i q.1 j k∧Stands b j (be2 q.2.1++be2 q.2.2)∧nx=j + 4
def RAt (b:yB) (i:Nat) (x:Rc5) (nx:Nat):Prop:=∃ j k sz,Rn b i i x.1 j k∧Stands b j (be2 x.2.1++be2 x.2.2.1++(be4 x.2.2.2.1++be2 (sz:Nat)))∧RdD b (j + 10) sz x.2.1 x.2.2.2.2∧nx=j + 10 + sz
theorem QAt.app {q:Qn3}(h:QAt b i q nx) (c:yB):QAt (b++c) i q nx:=by
 obtain ⟨j,k,h1,h2,h3⟩:=h
 exact ⟨j,k,h1.app c,h2.app c,h3⟩
theorem RAt.app {x:Rc5}(h:RAt b i x nx) (c:yB):RAt (b++c) i x nx:=by
 obtain ⟨j,k,sz,h1,h2,h3,h4⟩:=h
 exact ⟨j,k,sz,h1.app c,h2.app c,h3.app c,h4⟩
theorem QAt.le {q:Qn3}(h:QAt b i q nx):i < nx∧nx≤b.length:=by
 obtain ⟨j,k,h1,h2,h3⟩:=h
 have:=h1.le; have:=h2.2
 grind [List.length_append,zam]
theorem RAt.le {x:Rc5}(h:RAt b i x nx):i < nx∧nx≤b.length:=by
 obtain ⟨j,k,sz,h1,h2,h3,h4⟩:=h
 have:=h1.le; have:=h3.1
 omega
def LAt {α:Type}(P:yB→Nat→α→Nat→Prop) (b:yB):Nat→List α→Nat→Prop
 | i,[],nx => i=nx
 | i,q::qs,nx => ∃ m,P b i q m∧LAt P b m qs nx
theorem LAt.app {α:Type}{P:yB→Nat→α→Nat→Prop}(hP:∀ {b i q nx},P b i q nx→∀ c,P (b++c) i q nx) {b:yB}:∀ {qs:List α}{i nx:Nat},LAt P b i qs nx→∀ c,LAt P (b++c) i qs nx
 | [],_,_,h,_ => h
 | _::_,_,_,⟨m,h1,h2⟩,c => ⟨m,hP h1 c,LAt.app hP h2 c⟩
theorem LAt.snoc {α:Type}{P:yB→Nat→α→Nat→Prop}{b:yB}{q:α}{nx:Nat}:∀ {qs:List α}{i m:Nat},LAt P b i qs m→P b m q nx→LAt P b i (qs++[q]) nx
 | [],_,_,rfl,h => ⟨_,h,rfl⟩
 | _::_,_,_,⟨m,h1,h2⟩,h => ⟨m,h1,LAt.snoc h2 h⟩
theorem LAt.cons {P:yB→Nat→α→Nat→Prop}{qs:List α}{d:α}(h:LAt P b i (qs.drop j) nx) (hj:j < qs.length):∃ m,P b i (qs.getD j d) m∧LAt P b m (qs.drop (j + 1)) nx:=by
 rw [zbS (d:=d) hj] at h
 exact h
theorem LAt.le {α:Type}{P:yB→Nat→α→Nat→Prop}(hP:∀ {b i q nx},P b i q nx→i < nx∧nx≤b.length) {b:yB}:∀ {qs:List α}{i nx:Nat},LAt P b i qs nx→i≤nx∧i + qs.length≤nx∧(0 < qs.length→nx≤b.length)
 | [],_,_,h => by have h:_=_:=h; grind
 | q::qs,i,nx,⟨m,h1,h2⟩ => by
  have a:=hP h1; have c:=LAt.le hP h2
  simp only [zC7]
  refine ⟨by omega,by omega,fun _ => ?_⟩
  rcases zEO qs.length with h0 | h0
  ·have:qs=[]:=zDk h0
   subst this
   have h2:m=nx:=h2
   omega
  omega
def hdB (id flags:Int) (a b c d:Nat):yB:=be2 id++be2 flags++be2 (a:Nat)++be2 (b:Nat)++be2 (c:Nat)++be2 (d:Nat)
def MAt (b:yB) (id flags:Int) (qs:List Qn3) (an ns ar:List Rc5):Prop:=b.length≤65535∧Stands b 0 (hdB id flags qs.length an.length ns.length ar.length) ∧
 ∃ p1 p2 p3,LAt QAt b 12 qs p1∧LAt RAt b p1 an p2∧LAt RAt b p2 ns p3∧LAt RAt b p3 ar b.length
def MOk (id flags:Int) (qs:List Qn3) (an ns ar:List Rc5):Prop:=(0≤id∧id≤65535)∧(0≤flags∧flags≤65535)∧(qs.length≤65535∧an.length≤65535∧ns.length≤65535∧ar.length≤65535)∧(∀ q ∈ qs,QOk q)∧(∀ x ∈ an,ROk x)∧(∀ x ∈ ns,ROk x)∧(∀ x ∈ ar,ROk x)
theorem zja (id flags:Int) (a b c d:Nat):(hdB id flags a b c d).length=12:=rfl
theorem QAt.mk' {q:Qn3}(h:Rn (b++l) b.length b.length q.1 (b.length + l.length) k):QAt (b++(l++(be2 q.2.1++be2 q.2.2))) b.length q (b.length + (l++(be2 q.2.1++be2 q.2.2)).length):=by
 refine ⟨b.length + l.length,k,?_,?_,by grind [zam]⟩
 ·rw [← zDg]; exact h.app _
 grind [zeC,be2,List.length_append,List.append_assoc]
theorem RAt.mk' {x:Rc5}(h:Rn (b++l) b.length b.length x.1 (b.length + l.length) k)
  (hd:RdD (b++(l++(be2 x.2.1++be2 x.2.2.1)++be4 x.2.2.2.1++be2 (w.length:Nat))++w) (b.length + (l.length + 10)) w.length x.2.1 x.2.2.2.2) :
  RAt (b++(l++(be2 x.2.1++be2 x.2.2.1)++be4 x.2.2.2.1++be2 (w.length:Nat)++w)) b.length x (b.length + (l++(be2 x.2.1++be2 x.2.2.1)++be4 x.2.2.2.1++be2 (w.length:Nat)++w).length):=by
 refine ⟨b.length + l.length,k,w.length,?_,?_,?_,by grind [zam,za3]⟩
 ·have:=h.app ((be2 x.2.1++be2 x.2.2.1)++be4 x.2.2.2.1++be2 (w.length:Nat)++w)
  grind
 ·grind [zeA,be2,be4,List.length_append,List.append_assoc]
 grind
def WAt (x hd:yB) (qs:List Qn3) (an ns ar:List Rc5):Prop:=Stands x 0 hd∧∃ p1 p2 p3,LAt QAt x 12 qs p1∧LAt RAt x p1 an p2∧LAt RAt x p2 ns p3∧LAt RAt x p3 ar x.length
theorem WAt.begin (h:hd.length=12):WAt hd hd [] [] [] []:=⟨by have:=zeC [] hd; grind,12,12,12,rfl,rfl,rfl,h.symm⟩
theorem WAt.q {x:yB}{q:Qn3}(h:WAt x hd qs [] [] []) (hq:QAt (x++w) x.length q (x.length + w.length)):WAt (x++w) hd (qs++[q]) [] [] []:=by
 obtain ⟨h1,p1,p2,p3,h2,h3,h4,h5⟩:=h
 have h3:p1=p2:=h3
 have h4:p2=p3:=h4
 have h5:p3=x.length:=h5
 subst h3; subst h4; subst h5
 have e:(x++w).length=x.length + w.length:=zC6
 exact ⟨h1.app w,_,_,_,LAt.snoc (LAt.app QAt.app h2 w) hq,rfl,rfl,e.symm⟩
theorem zCP {x:yB}{an:List Rc5}{r:Rc5}(h:WAt x hd qs an [] []) (hr:RAt (x++w) x.length r (x.length + w.length)):WAt (x++w) hd qs (an++[r]) [] []:=by
 obtain ⟨h1,p1,p2,p3,h2,h3,h4,h5⟩:=h
 have h4:p2=p3:=h4
 have h5:p3=x.length:=h5
 subst h4; subst h5
 have e:(x++w).length=x.length + w.length:=zC6
 exact ⟨h1.app w,_,_,_,LAt.app QAt.app h2 w,LAt.snoc (LAt.app RAt.app h3 w) hr,rfl,e.symm⟩
theorem zCN {x:yB}{an ns:List Rc5}{r:Rc5}(h:WAt x hd qs an ns []) (hr:RAt (x++w) x.length r (x.length + w.length)):WAt (x++w) hd qs an (ns++[r]) []:=by
 obtain ⟨h1,p1,p2,p3,h2,h3,h4,h5⟩:=h
 have h5:p3=x.length:=h5
 subst h5
 have e:(x++w).length=x.length + w.length:=zC6
 exact ⟨h1.app w,_,_,_,LAt.app QAt.app h2 w,LAt.app RAt.app h3 w,LAt.snoc (LAt.app RAt.app h4 w) hr,e.symm⟩
theorem zCO {x:yB}{an ns ar:List Rc5}{r:Rc5}(h:WAt x hd qs an ns ar) (hr:RAt (x++w) x.length r (x.length + w.length)):WAt (x++w) hd qs an ns (ar++[r]):=by
 obtain ⟨h1,p1,p2,p3,h2,h3,h4,h5⟩:=h
 have e:(x++w).length=x.length + w.length:=zC6
 exact ⟨h1.app w,_,_,_,LAt.app QAt.app h2 w,LAt.app RAt.app h3 w,LAt.app RAt.app h4 w,e ▸ LAt.snoc (LAt.app RAt.app h5 w) hr⟩
theorem WAt.done {x:yB}{an ns ar:List Rc5}(h:WAt x (hdB id flags qs.length an.length ns.length ar.length) qs an ns ar) (hl:x.length≤65535):MAt x id flags qs an ns ar:=⟨hl,h⟩
theorem zws {q a r:Nat}(h:Stands b 0 (hdB id flags q a n r)):Stands b 0 (be2 id)∧Stands b 2 (be2 flags)∧Stands b 4 (be2 (q:Nat))∧Stands b 6 (be2 (a:Nat))∧Stands b 8 (be2 (n:Nat))∧Stands b 10 (be2 (r:Nat)) :=
 ⟨h.left.left.left.left.left,h.left.left.left.left.right,h.left.left.left.right,h.left.left.right,h.left.right,h.right⟩
theorem zii {P:α→Prop}{l:List α}{d:α}(h:∀ x ∈ l.take j,P x) (hj:j < l.length) (hd:P (l.getD j d)):∀ x ∈ l.take (j + 1),P x:=by
 intro x hx
 rw [zDA hj] at hx
 grind
theorem zcQ {l:List α}{d:α}(hj:j < l.length):l.take (j + 1)=l.take j++[l.getD j d]:=by
 simp_all
theorem zy6 (n:Int) (h0:0≤n) (h1:n≤65535) :
  SCalls Tryz.prog 130 [vV n] w0 base (H) (fun v H' => ∃ A' C' s',Own tyB 5 A' C' [UInt8.ofInt (n / 256),UInt8.ofInt n] s'∧v = .tuple #[.slice A' 2 C',int 0]∧H' = s'::H):=by
 refine zaa (n:=36) Tryz.func130 Z Z Z fun cs => ?_
 refine a7 ?_
 refine AtL.alloc zp9 (cs:=#[.int .u8 0,.int .u8 0]) Z zg0 Z ?_
 intro b1
 refine a7 ?_
 refine zaI 7 (E':=[(16,.bool (!(decide ((n / 65536:Int)=0)))),(0,vV n),(4,pB b1)]) (fun J => ?_) ?_
 ·refine zaG (t:=9) Z ?_ ?_
  ·intro hs9
   try dsimp only at hs9
   exact absurd hs9 kQ
  ·intro hs9
   try dsimp only at hs9
   refine a3 ?_
   refine zfa (z:=16) (.inr ⟨_,_,_,Z,Z,Z,Z⟩) Z Z Z kE ?_
   refine zeq (z:=n / 65536) (.inr ⟨_,_,_,Z,Z,Z,Z⟩) Z Z Z kQ (zgf _ _ 16 Z kE _ kE)<|a2 ?_
   exact J _ zej
 ·refine a1 ?_
  refine zao false Z kP<|a13 ?_
  refine zcj<|a19 ?_
  refine AtL.sub (z:=1) zg0 Z Z Z kE<|a1 ?_
  refine AtL.sub (z:=1) zg0 Z Z Z kE ?_
  refine zfa (z:=8) zg0 Z Z Z kE ?_
  refine zeq (z:=n / 256) zg0 Z Z Z kQ (zgf _ _ 8 Z kE _ kE)<|zay (z:=((UInt8.ofInt (n / 256)).toNat:Int)) Z Z zg0 Z Z (zfm _)<|zae (cs:=[.int .u8 ((UInt8.ofInt (n / 256)).toNat:Int)]) Z zbO zaF Z Z zg0 Z Z Z ?_
  intro b2
  refine zau tyB (l:=([(UInt8.ofInt (n / 256))]:yB)) Z Z kT ?_
  intro s3 o4
  refine AtL.nil ?_
  refine zap (l:=[]) (news:=[(UInt8.ofInt (n / 256))]) 0 zav Z (Own.nil tyB 5) (o4.rd (i:=1) Z) (by first | omega | (simp only [zC6,zC7,zC8]; omega) | (simp; done) | (simp; omega)) zg0 Z Z Z ?_
  intro A5 C6 s7 o8
  refine a4 ?_
  refine AtL.add (z:=1) zg0 Z Z Z kE<|a22 ?_
  refine AtL.sub (z:=1) zg0 Z Z Z kE<|a1 ?_
  refine AtL.sub (z:=0) zg0 Z Z Z kE ?_
  refine zfa (z:=0) zg0 Z Z Z kE ?_
  refine zeq (z:=n / 1) zg0 Z Z Z kQ (zgf _ _ 0 Z kE _ kE)<|zay (z:=((UInt8.ofInt (n / 1)).toNat:Int)) Z Z zg0 Z Z (zfm _)<|zae (cs:=[.int .u8 ((UInt8.ofInt (n / 1)).toNat:Int)]) Z zbO zaF Z Z zg0 Z Z Z ?_
  intro b9
  refine zau tyB (l:=([(UInt8.ofInt (n / 1))]:yB)) Z Z kT ?_
  intro s10 o11
  refine zap (l:=[]++[(UInt8.ofInt (n / 256))]) (news:=[(UInt8.ofInt (n / 1))]) 1 zav Z o8 (o11.rd (i:=0) Z) (by first | omega | (simp only [zC6,zC7,zC8]; omega) | (simp; done) | (simp; omega)) zg0 Z Z Z ?_
  intro A12 C13 s14 o15
  refine a4 ?_
  refine AtL.add (z:=2) zg0 Z Z Z kE<|a16 ?_
  refine zpk [1] 4 ?_
  exact zad Tryz.func130 Z Z (⟨_,_,_,by have h:=o15; rw [Int.ediv_one] at h; exact h,Z,Z⟩)
theorem zvW (n:Int) (h0:0≤n) (h1:n≤65535) :
  SCalls Tryz.prog 65 [vV n] w0 base (H) (fun v H' => ∃ A' C' s',Own tyB 5 A' C' [UInt8.ofInt (n / 256),UInt8.ofInt n] s'∧v = .tuple #[.slice A' 2 C',int 0]∧H' = s'::H):=by
 refine zaa (n:=8) Tryz.func65 Z Z Z fun cs => ?_
 refine a8 ?_
 refine zca Z (zy6 n kQ kQ) ?_
 rintro _ _ ⟨A1,C2,s3,o4,rfl,rfl⟩
 refine a5 ?_
 exact zad Tryz.func65 Z Z (⟨_,_,_,o4,Z,Z⟩)
theorem zAK {b:Nat}{x:Value} :
  DCalls Tryz.prog 229 [pB b] w0 base ([(b,.cells #[x] 28 (0,0))]::H) .returning (fun m' H' => m' = .returning∧H' = [(b,.cells #[x] 28 (0,0))]::H):=by
 refine DCalls.of_walk (n:=14) Tryz.func229 Z Z Z fun fr cs => ?_
 refine a2 ?_
 refine zdW Z<|a6 ?_
 refine zdf (u:=.tuple #[.nilIface,.bool false]) zg0 Z Z (fun w => by kernel_rfl)<|a15 ?_
 refine zer Z zg0 Z Z<|a3 ?_
 refine zhF Z ?_
 exact zed (vs:=[]) Tryz.func229 Z trivial (⟨Z,Z⟩)
theorem zAL {b:Nat}{x:Value}(i m:Int) (s:Bool) :
  DCalls Tryz.prog 229 [pB b] w0 base ([(b,.cells #[x] 28 (0,0))]::H) (.panicking [{ v:=.iface Tryz.prog.rt.boundsError (.agg #[vV i,vV m,.bool s,.int .u8 0]),recovered:=false }]) (fun m' H' => m' = .returning∧H' = [(b,.cells #[int 4] 28 (0,0))]::H):=by
 refine DCalls.of_walk (n:=14) Tryz.func229 Z Z Z fun fr cs => ?_
 refine a2 ?_
 refine zfS Z<|a6 ?_
 refine zdf (u:=.tuple #[.iface Tryz.prog.rt.boundsError (.agg #[vV i,vV m,.bool s,.int .u8 0]),.bool true]) zg0 Z Z (fun w => by kernel_rfl)<|a15 ?_
 refine zbv Z ?_
 exact zed (vs:=[]) Tryz.func229 Z trivial (⟨Z,Z⟩)
def atF (l:yB) (i:Int):UInt8×Int:=if 0≤i∧i < (l.length:Int) then (l.getD i.toNat 0,0) else (0,4)
theorem zAJ (h:Rd tyB w0 base H A C l) (i:Int) :
  SCalls Tryz.prog 156 [.slice A l.length C,vV i] w0 base (H) (fun v H' => v = .tuple #[.int .u8 (atF l i).1.toNat,int (atF l i).2]∧H' = H):=by
 refine zaa (n:=11) Tryz.func156 Z Z Z fun cs => ?_
 refine a3 ?_
 refine AtL.alloc ziE (cs:=#[vV 0]) Z zg0 Z ?_
 intro b1
 refine a3 ?_
 refine zbV zg0 Z Z Z<|zfU Z zg0 Z Z Z<|a5 ?_
 rcases Classical.em (0≤i∧i < (l.length:Int)) with hin | hin
 ·obtain ⟨j,hj⟩:∃ j:Nat,i=(j:Int):=⟨(i).toNat,by omega⟩
  refine zah j (Rd.skip 1 h) Z zaF zg0 Z Z Z hj kQ ?_
  refine zax (v:=.int .u8 ((l.getD j 0).toNat:Int)) zcP zg0 Z Z (zaL (Rd.skip 1 h) (getD_some 0 kQ) Z)<|a3 ?_
  refine zbv Z<|zbk zj6 Z Z zAK ?_
  rintro _ _ ⟨rfl,rfl⟩
  exact zaW (vs:=[.int .u8 ((l.getD j 0).toNat:Int),vV 0]) [] 1 Z Z Tryz.func156 Z ⟨Z,⟨_,Z,LoadsTo.flat zbw (Cell.own 0 0 Z Z Z)⟩,trivial⟩ (⟨by subst hj; rw [atF,zDi hin]; rfl,Z⟩)
 ·refine zjC Z zg0 Z Z kQ ?_
  intro m s
  refine zbk zj6 Z Z (zAL _ _ _) ?_
  rintro _ _ ⟨rfl,rfl⟩
  exact zaW (vs:=[.int .u8 0,vV 4]) [] 1 Z Z Tryz.func156 Z ⟨Z,⟨_,Z,LoadsTo.flat zbw (Cell.own 0 0 Z Z Z)⟩,trivial⟩ (⟨by rw [atF,zDb hin]; rfl,Z⟩)
theorem zCE (h:i < l.length):atF l i=(l.getD i 0,0):=by rw [atF,zDi kQ]; rfl
def zcI (l:yB) (i:Nat):Int×Int×Int×Int :=
 if l.length < i + 2 then (0,0,if l.length < i then 5 else 4,if l.length < i then 0 else l.length) else (256 * (l.getD i 0).toNat + (l.getD (i + 1) 0).toNat,i + 2,0,0)
theorem zzT (h:Rd tyB w0 base H A C l) (i:Nat) (hi:i≤4611686018427387904) (hl:l.length≤4611686018427387904) :
  SCalls Tryz.prog 87 [.slice A l.length C,vV (i:Int),vV 2] w0 base (H) (fun v H' => v = .tuple #[int (zcI l i).1,int (zcI l i).2.1,.agg #[int (zcI l i).2.2.1,int (zcI l i).2.2.2]]∧H' = H):=by
 refine zaa (n:=51) Tryz.func87 Z Z Z fun cs => ?_
 refine a4 ?_
 refine AtL.alloc zaH (cs:=#[vV 0,vV 0]) Z zg0 Z ?_
 intro b1
 refine a7 ?_
 refine zaI 5 (E':=[(20,.bool (decide ((l.length:Int) < (i:Int)))),(0,.slice A l.length C),(1,vV (i:Int)),(2,vV 2),(8,pB b1)]) (fun J => ?_) ?_
 ·refine zaG (t:=15) Z ?_ ?_
  ·intro hs15
   try dsimp only at hs15
   exact absurd hs15 kQ
  ·intro hs15
   try dsimp only at hs15
   refine a5 ?_
   exact J _ zej
 ·refine a1 ?_
  refine zac Z ?_ ?_
  ·intro hc1
   try dsimp only at hc1
   refine a2 ?_
   refine zak (cs:=[vV 5,vV 0]) zbe zg0 Z Z Z<|a4 ?_
   exact zaE (vs:=[vV 0,vV 0,.agg #[vV 5,vV 0]]) [] 1 Z Z Tryz.func87 Z ⟨Z,Z,⟨_,Z,LoadsTo.agg (cs:=[vV 5,vV 0]) zbi Z (zaw 0 0 0 Z Z Z)⟩,trivial⟩ (⟨by grind [zc3,zcI,atF],Z⟩)
  ·intro hc1
   try dsimp only at hc1
   refine a12 ?_
   refine zcj<|a20 ?_
   refine zca Z (zAJ (l:=l) (Rd.skip 1 h) ((i:Int) + 0)) ?_
   rintro _ _ ⟨rfl,rfl⟩
   refine a6 ?_
   have hB0:=(atF l (((i:Nat):Int) + 0)).1.toNat_lt
   refine a6 ?_
   refine zaT Z ?_ ?_
   ·intro hc3
    have hc3:¬ (((atF l ((i:Int) + 0)).2)=0):=zDm (zat hc3)
    refine a5 ?_
    refine zak (cs:=[vV ((atF l ((i:Int) + 0)).2),vV (l.length:Int)]) zbe zg0 Z Z Z<|a4 ?_
    exact zaE (vs:=[vV 0,vV 0,.agg #[vV ((atF l ((i:Int) + 0)).2),vV (l.length:Int)]]) [] 1 Z Z Tryz.func87 Z ⟨Z,Z,⟨_,Z,LoadsTo.agg (cs:=[vV ((atF l ((i:Int) + 0)).2),vV (l.length:Int)]) zbi Z (zaw 0 0 0 Z Z Z)⟩,trivial⟩ (⟨by grind [zc3,zcI,atF],Z⟩)
   ·intro hc3
    have hc3:((atF l ((i:Int) + 0)).2)=0:=zDf (zas hc3)
    refine a3 ?_
    refine zhD (z:=0 * 256) zg0 Z Z Z kQ (ziK _ _ 8 Z kE _ kE kQ kQ)<|a1 ?_
    have hB2:=zeh (((atF l ((i:Int) + 0)).1))
    refine zay (z:=((atF l ((i:Int) + 0)).1.toNat:Int)) Z Z zg0 Z Z (zcG _) ?_
    refine zdp (z:=(0 * 256) + ((atF l ((i:Int) + 0)).1.toNat:Int)) zg0 Z Z Z (zhK 8 (Int.toNat 0) _ kQ Z kQ kQ)<|a4 ?_
    refine AtL.add (z:=1) zg0 Z Z Z kE<|a23 ?_
    refine zca Z (zAJ (l:=l) (Rd.skip 1 h) ((i:Int) + 1)) ?_
    rintro _ _ ⟨rfl,rfl⟩
    refine a6 ?_
    have hB1:=(atF l (((i:Nat):Int) + 1)).1.toNat_lt
    refine a6 ?_
    refine zaT Z ?_ ?_
    ·intro hc3
     have hc3:¬ (((atF l ((i:Int) + 1)).2)=0):=zDm (zat hc3)
     refine a5 ?_
     refine zak (cs:=[vV ((atF l ((i:Int) + 1)).2),vV (l.length:Int)]) zbe zg0 Z Z Z<|a4 ?_
     exact zaE (vs:=[vV 0,vV 0,.agg #[vV ((atF l ((i:Int) + 1)).2),vV (l.length:Int)]]) [] 1 Z Z Tryz.func87 Z ⟨Z,Z,⟨_,Z,LoadsTo.agg (cs:=[vV ((atF l ((i:Int) + 1)).2),vV (l.length:Int)]) zbi Z (zaw 0 0 0 Z Z Z)⟩,trivial⟩ (⟨by grind [zc3,zcI,atF],Z⟩)
    ·intro hc3
     have hc3:((atF l ((i:Int) + 1)).2)=0:=zDf (zas hc3)
     refine a3 ?_
     refine zhD (z:=((0 * 256) + ((atF l ((i:Int) + 0)).1.toNat:Int)) * 256) zg0 Z Z Z kQ (ziK _ _ 8 Z kE _ kE kQ kQ)<|a1 ?_
     have hB3:=zeh (((atF l ((i:Int) + 1)).1))
     refine zay (z:=((atF l ((i:Int) + 1)).1.toNat:Int)) Z Z zg0 Z Z (zcG _) ?_
     refine zdp (z:=(((0 * 256) + ((atF l ((i:Int) + 0)).1.toNat:Int)) * 256) + ((atF l ((i:Int) + 1)).1.toNat:Int)) zg0 Z Z Z (zhK 8 (Int.toNat ((0 * 256) + ((atF l ((i:Int) + 0)).1.toNat:Int))) _ kQ Z kQ kQ)<|a4 ?_
     refine AtL.add (z:=2) zg0 Z Z Z kE<|a16 ?_
     refine zak (cs:=[vV 0,vV 0]) zbe zg0 Z Z Z<|a4 ?_
     exact zaE (vs:=[vV ((((0 * 256) + ((atF l ((i:Int) + 0)).1.toNat:Int)) * 256) + ((atF l ((i:Int) + 1)).1.toNat:Int)),vV ((i:Int) + 2),.agg #[vV 0,vV 0]]) [] 1 Z Z Tryz.func87 Z ⟨Z,Z,⟨_,Z,LoadsTo.agg (cs:=[vV 0,vV 0]) zbi Z (zaw 0 0 0 Z Z Z)⟩,trivial⟩ (⟨by grind [zc3,zcI,atF],Z⟩)
theorem zwv (h:Rd tyB w0 base H A C l) (i:Nat) (hi:i≤4611686018427387904) (hl:l.length≤4611686018427387904) :
  SCalls Tryz.prog 34 [.slice A l.length C,vV (i:Int)] w0 base (H) (fun v H' => v = .tuple #[int (zcI l i).1,int (zcI l i).2.1,.agg #[int (zcI l i).2.2.1,int (zcI l i).2.2.2]]∧H' = H):=by
 refine zaa (n:=13) Tryz.func34 Z Z Z fun cs => ?_
 refine a4 ?_
 refine AtL.alloc zaH (cs:=#[vV 0,vV 0]) Z zg0 Z ?_
 intro b1
 refine a5 ?_
 refine zca Z (zzT (l:=l) (Rd.skip 1 h) i kQ kQ) ?_
 rintro _ _ ⟨rfl,rfl⟩
 refine a7 ?_
 exact zaE (vs:=[vV ((zcI l i).1),vV ((zcI l i).2.1),.agg #[vV ((zcI l i).2.2.1),vV ((zcI l i).2.2.2)]]) [] 1 Z Z Tryz.func34 Z ⟨Z,Z,⟨_,Z,LoadsTo.agg (cs:=[vV ((zcI l i).2.2.1),vV ((zcI l i).2.2.2)]) zbi Z (zaw 0 0 0 Z Z Z)⟩,trivial⟩ (⟨Z,Z⟩)
theorem zGt (a:Int):((UInt8.ofInt a).toNat:Int)=a % 256:=by
 rw [zdN]; omega
theorem zww {n:Int}(h:Stands b i (be2 n)) (h0:0≤n∧n≤65535):zcI b i=(n,(i:Int) + 2,0,0):=by
 have h1:=h.getD (j:=0) (by rw [zam]; decide)
 have h2:=h.getD (j:=1) (by rw [zam]; decide)
 have h3:=h.2
 rw [zam] at h3
 rw [zDZ] at h1
 rw [zcI,zDb kQ,h1,h2]
 show (256 * ((UInt8.ofInt (n / 256)).toNat:Int) + ((UInt8.ofInt n).toNat:Int),_)=_
 rw [zGt,zGt]
 congr 1
 omega
theorem zy5 (n:Int) (h0:0≤n) (h1:n≤4294967295) :
  SCalls Tryz.prog 204 [vV n] w0 base (H) (fun v H' => ∃ A' C' s',Own tyB 5 A' C' (be4 n) s'∧v = .tuple #[.slice A' 4 C',int 0]∧H' = s'::H):=by
 refine zaa (n:=36) Tryz.func204 Z Z Z fun cs => ?_
 refine a7 ?_
 refine AtL.alloc zp5 (cs:=#[.int .u8 0,.int .u8 0,.int .u8 0,.int .u8 0]) Z zg0 Z ?_
 intro b1
 refine a7 ?_
 refine zaI 7 (E':=[(16,.bool (!(decide ((n / 4294967296:Int)=0)))),(0,vV n),(4,pB b1)]) (fun J => ?_) ?_
 ·refine zaG (t:=9) Z ?_ ?_
  ·intro hs9
   try dsimp only at hs9
   exact absurd hs9 kQ
  ·intro hs9
   try dsimp only at hs9
   refine a3 ?_
   refine zfa (z:=32) (.inr ⟨_,_,_,Z,Z,Z,Z⟩) Z Z Z kE ?_
   refine zeq (z:=n / 4294967296) (.inr ⟨_,_,_,Z,Z,Z,Z⟩) Z Z Z kQ (zgf _ _ 32 Z kE _ kE)<|a2 ?_
   exact J _ zej
 ·refine a1 ?_
  refine zao false Z kP<|a13 ?_
  refine zcj<|a19 ?_
  refine AtL.sub (z:=3) zg0 Z Z Z kE<|a1 ?_
  refine AtL.sub (z:=3) zg0 Z Z Z kE ?_
  refine zfa (z:=24) zg0 Z Z Z kE ?_
  refine zeq (z:=n / 16777216) zg0 Z Z Z kQ (zgf _ _ 24 Z kE _ kE)<|zay (z:=((UInt8.ofInt (n / 16777216)).toNat:Int)) Z Z zg0 Z Z (zfm _)<|zae (cs:=[.int .u8 ((UInt8.ofInt (n / 16777216)).toNat:Int)]) Z zbO zaF Z Z zg0 Z Z Z ?_
  intro b2
  refine zau tyB (l:=([(UInt8.ofInt (n / 16777216))]:yB)) Z Z kT ?_
  intro s3 o4
  refine AtL.nil ?_
  refine zap (l:=[]) (news:=[(UInt8.ofInt (n / 16777216))]) 0 zav Z (Own.nil tyB 5) (o4.rd (i:=1) Z) (by first | omega | (simp only [zC6,zC7,zC8]; omega) | (simp; done) | (simp; omega)) zg0 Z Z Z ?_
  intro A5 C6 s7 o8
  refine a4 ?_
  refine AtL.add (z:=1) zg0 Z Z Z kE<|a22 ?_
  refine AtL.sub (z:=3) zg0 Z Z Z kE<|a1 ?_
  refine AtL.sub (z:=2) zg0 Z Z Z kE ?_
  refine zfa (z:=16) zg0 Z Z Z kE ?_
  refine zeq (z:=n / 65536) zg0 Z Z Z kQ (zgf _ _ 16 Z kE _ kE)<|zay (z:=((UInt8.ofInt (n / 65536)).toNat:Int)) Z Z zg0 Z Z (zfm _)<|zae (cs:=[.int .u8 ((UInt8.ofInt (n / 65536)).toNat:Int)]) Z zbO zaF Z Z zg0 Z Z Z ?_
  intro b9
  refine zau tyB (l:=([(UInt8.ofInt (n / 65536))]:yB)) Z Z kT ?_
  intro s10 o11
  refine zap (l:=[]++[(UInt8.ofInt (n / 16777216))]) (news:=[(UInt8.ofInt (n / 65536))]) 1 zav Z o8 (o11.rd (i:=0) Z) (by first | omega | (simp only [zC6,zC7,zC8]; omega) | (simp; done) | (simp; omega)) zg0 Z Z Z ?_
  intro A12 C13 s14 o15
  refine a4 ?_
  refine AtL.add (z:=2) zg0 Z Z Z kE<|a22 ?_
  refine AtL.sub (z:=3) zg0 Z Z Z kE<|a1 ?_
  refine AtL.sub (z:=1) zg0 Z Z Z kE ?_
  refine zfa (z:=8) zg0 Z Z Z kE ?_
  refine zeq (z:=n / 256) zg0 Z Z Z kQ (zgf _ _ 8 Z kE _ kE)<|zay (z:=((UInt8.ofInt (n / 256)).toNat:Int)) Z Z zg0 Z Z (zfm _)<|zae (cs:=[.int .u8 ((UInt8.ofInt (n / 256)).toNat:Int)]) Z zbO zaF Z Z zg0 Z Z Z ?_
  intro b16
  refine zau tyB (l:=([(UInt8.ofInt (n / 256))]:yB)) Z Z kT ?_
  intro s17 o18
  refine zap (l:=([]++[(UInt8.ofInt (n / 16777216))])++[(UInt8.ofInt (n / 65536))]) (news:=[(UInt8.ofInt (n / 256))]) 2 zav Z o15 (o18.rd (i:=0) Z) (by first | omega | (simp only [zC6,zC7,zC8]; omega) | (simp; done) | (simp; omega)) zg0 Z Z Z ?_
  intro A19 C20 s21 o22
  refine a4 ?_
  refine AtL.add (z:=3) zg0 Z Z Z kE<|a22 ?_
  refine AtL.sub (z:=3) zg0 Z Z Z kE<|a1 ?_
  refine AtL.sub (z:=0) zg0 Z Z Z kE ?_
  refine zfa (z:=0) zg0 Z Z Z kE ?_
  refine zeq (z:=n / 1) zg0 Z Z Z kQ (zgf _ _ 0 Z kE _ kE)<|zay (z:=((UInt8.ofInt (n / 1)).toNat:Int)) Z Z zg0 Z Z (zfm _)<|zae (cs:=[.int .u8 ((UInt8.ofInt (n / 1)).toNat:Int)]) Z zbO zaF Z Z zg0 Z Z Z ?_
  intro b23
  refine zau tyB (l:=([(UInt8.ofInt (n / 1))]:yB)) Z Z kT ?_
  intro s24 o25
  refine zap (l:=(([]++[(UInt8.ofInt (n / 16777216))])++[(UInt8.ofInt (n / 65536))])++[(UInt8.ofInt (n / 256))]) (news:=[(UInt8.ofInt (n / 1))]) 3 zav Z o22 (o25.rd (i:=0) Z) (by first | omega | (simp only [zC6,zC7,zC8]; omega) | (simp; done) | (simp; omega)) zg0 Z Z Z ?_
  intro A26 C27 s28 o29
  refine a4 ?_
  refine AtL.add (z:=4) zg0 Z Z Z kE<|a16 ?_
  refine zpk [3] 6 ?_
  exact zad Tryz.func204 Z Z (⟨_,_,_,by have h:=o29; rw [Int.ediv_one] at h; exact h,Z,Z⟩)
theorem zvV (n:Int) (h0:0≤n) (h1:n≤4294967295) :
  SCalls Tryz.prog 134 [vV n] w0 base (H) (fun v H' => ∃ A' C' s',Own tyB 5 A' C' (be4 n) s'∧v = .tuple #[.slice A' 4 C',int 0]∧H' = s'::H):=by
 refine zaa (n:=8) Tryz.func134 Z Z Z fun cs => ?_
 refine a8 ?_
 refine zca Z (zy5 n kQ kQ) ?_
 rintro _ _ ⟨A1,C2,s3,o4,rfl,rfl⟩
 refine a5 ?_
 exact zad Tryz.func134 Z Z (⟨_,_,_,o4,Z,Z⟩)
theorem zd3 (n:Int) (h0:0≤n) (h1:n≤65535):SCalls Tryz.prog 65 [int n] w0 base H (fun v H' => ∃ A' C' s',Own tyB 5 A' C' (be2 n) s'∧v = .tuple #[.slice A' 2 C',int 0]∧H' = s'::H):=zvW n h0 h1
theorem zxs (h:Rd tyB w0 base H A C l) {i:Int}(j:Nat) (hi:i=(j:Int)) (hj:j < l.length):SCalls Tryz.prog 156 [.slice A l.length C,int i] w0 base H (fun v H' => v = .tuple #[.int .u8 (l.getD j 0).toNat,int 0]∧H' = H):=by
 subst hi
 have h9:=zAJ h (j:Int)
 rwa [zCE hj] at h9
theorem zzS (h:Rd tyB w0 base H A C l) (i:Nat) (hi:i + 4≤l.length) (hl:l.length≤4611686018427387904) :
  SCalls Tryz.prog 87 [.slice A l.length C,vV (i:Int),vV 4] w0 base (H) (fun v H' => v = .tuple #[int (((((l.getD i 0).toNat:Int) * 256 + ((l.getD (i + 1) 0).toNat:Int)) * 256 + ((l.getD (i + 2) 0).toNat:Int)) * 256 + ((l.getD (i + 3) 0).toNat:Int)),int ((i:Int) + 4),.agg #[int 0,int 0]]∧H' = H):=by
 refine zaa (n:=51) Tryz.func87 Z Z Z fun cs => ?_
 refine a4 ?_
 refine AtL.alloc zaH (cs:=#[vV 0,vV 0]) Z zg0 Z ?_
 intro b1
 refine a7 ?_
 refine zaI 5 (E':=[(20,.bool (decide ((l.length:Int) < (i:Int)))),(0,.slice A l.length C),(1,vV (i:Int)),(2,vV 4),(8,pB b1)]) (fun J => ?_) ?_
 ·refine zaG (t:=15) Z ?_ ?_
  ·intro hs15
   try dsimp only at hs15
   exact absurd hs15 kQ
  ·intro hs15
   try dsimp only at hs15
   refine a5 ?_
   exact J _ zej
 ·refine a1 ?_
  refine zac Z ?_ ?_
  ·intro hc1
   try dsimp only at hc1
   refine a2 ?_
   refine zak (cs:=[vV 5,vV 0]) zbe zg0 Z Z Z<|a4 ?_
   exact zaE (vs:=[vV 0,vV 0,.agg #[vV 5,vV 0]]) [] 1 Z Z Tryz.func87 Z ⟨Z,Z,⟨_,Z,LoadsTo.agg (cs:=[vV 5,vV 0]) zbi Z (zaw 0 0 0 Z Z Z)⟩,trivial⟩ (⟨by first | rfl | grind [zc3],Z⟩)
  ·intro hc1
   try dsimp only at hc1
   refine a12 ?_
   refine zcj<|a20 ?_
   refine zca Z (zxs (l:=l) (Rd.skip 1 h) (i + 0) kQ kQ) ?_
   rintro _ _ ⟨rfl,rfl⟩
   refine a6 ?_
   have hB0:=(l.getD (i) 0).toNat_lt
   refine a10 ?_
   refine zhD (z:=0 * 256) zg0 Z Z Z kQ (ziK _ _ 8 Z kE _ kE kQ kQ)<|a1 ?_
   have hB2:=zeh ((l.getD (i + 0) 0))
   refine zay (z:=((l.getD (i + 0) 0).toNat:Int)) Z Z zg0 Z Z (zcG _) ?_
   refine zdp (z:=(0 * 256) + ((l.getD (i + 0) 0).toNat:Int)) zg0 Z Z Z (zhK 8 (Int.toNat 0) _ kQ Z kQ kQ)<|a4 ?_
   refine AtL.add (z:=1) zg0 Z Z Z kE<|a23 ?_
   refine zca Z (zxs (l:=l) (Rd.skip 1 h) (i + 1) kQ kQ) ?_
   rintro _ _ ⟨rfl,rfl⟩
   refine a6 ?_
   have hB1:=(l.getD (i + 1) 0).toNat_lt
   refine a10 ?_
   refine zhD (z:=((0 * 256) + ((l.getD (i + 0) 0).toNat:Int)) * 256) zg0 Z Z Z kQ (ziK _ _ 8 Z kE _ kE kQ kQ)<|a1 ?_
   have hB3:=zeh ((l.getD (i + 1) 0))
   refine zay (z:=((l.getD (i + 1) 0).toNat:Int)) Z Z zg0 Z Z (zcG _) ?_
   refine zdp (z:=(((0 * 256) + ((l.getD (i + 0) 0).toNat:Int)) * 256) + ((l.getD (i + 1) 0).toNat:Int)) zg0 Z Z Z (zhK 8 (Int.toNat ((0 * 256) + ((l.getD (i + 0) 0).toNat:Int))) _ kQ Z kQ kQ)<|a4 ?_
   refine AtL.add (z:=2) zg0 Z Z Z kE<|a23 ?_
   refine zca Z (zxs (l:=l) (Rd.skip 1 h) (i + 2) kQ kQ) ?_
   rintro _ _ ⟨rfl,rfl⟩
   refine a6 ?_
   have hB2:=(l.getD (i + 2) 0).toNat_lt
   refine a10 ?_
   refine zhD (z:=((((0 * 256) + ((l.getD (i + 0) 0).toNat:Int)) * 256) + ((l.getD (i + 1) 0).toNat:Int)) * 256) zg0 Z Z Z kQ (ziK _ _ 8 Z kE _ kE kQ kQ)<|a1 ?_
   have hB4:=zeh ((l.getD (i + 2) 0))
   refine zay (z:=((l.getD (i + 2) 0).toNat:Int)) Z Z zg0 Z Z (zcG _) ?_
   refine zdp (z:=(((((0 * 256) + ((l.getD (i + 0) 0).toNat:Int)) * 256) + ((l.getD (i + 1) 0).toNat:Int)) * 256) + ((l.getD (i + 2) 0).toNat:Int)) zg0 Z Z Z (zhK 8 (Int.toNat ((((0 * 256) + ((l.getD (i + 0) 0).toNat:Int)) * 256) + ((l.getD (i + 1) 0).toNat:Int))) _ kQ Z kQ kQ)<|a4 ?_
   refine AtL.add (z:=3) zg0 Z Z Z kE<|a23 ?_
   refine zca Z (zxs (l:=l) (Rd.skip 1 h) (i + 3) kQ kQ) ?_
   rintro _ _ ⟨rfl,rfl⟩
   refine a6 ?_
   have hB3:=(l.getD (i + 3) 0).toNat_lt
   refine a10 ?_
   refine zhD (z:=((((((0 * 256) + ((l.getD (i + 0) 0).toNat:Int)) * 256) + ((l.getD (i + 1) 0).toNat:Int)) * 256) + ((l.getD (i + 2) 0).toNat:Int)) * 256) zg0 Z Z Z kQ (ziK _ _ 8 Z kE _ kE kQ kQ)<|a1 ?_
   have hB5:=zeh ((l.getD (i + 3) 0))
   refine zay (z:=((l.getD (i + 3) 0).toNat:Int)) Z Z zg0 Z Z (zcG _) ?_
   refine zdp (z:=(((((((0 * 256) + ((l.getD (i + 0) 0).toNat:Int)) * 256) + ((l.getD (i + 1) 0).toNat:Int)) * 256) + ((l.getD (i + 2) 0).toNat:Int)) * 256) + ((l.getD (i + 3) 0).toNat:Int)) zg0 Z Z Z (zhK 8 (Int.toNat ((((((0 * 256) + ((l.getD (i + 0) 0).toNat:Int)) * 256) + ((l.getD (i + 1) 0).toNat:Int)) * 256) + ((l.getD (i + 2) 0).toNat:Int))) _ kQ Z kQ kQ)<|a4 ?_
   refine AtL.add (z:=4) zg0 Z Z Z kE<|a16 ?_
   refine zak (cs:=[vV 0,vV 0]) zbe zg0 Z Z Z<|a4 ?_
   exact zaE (vs:=[vV ((((((((0 * 256) + ((l.getD (i + 0) 0).toNat:Int)) * 256) + ((l.getD (i + 1) 0).toNat:Int)) * 256) + ((l.getD (i + 2) 0).toNat:Int)) * 256) + ((l.getD (i + 3) 0).toNat:Int)),vV ((i:Int) + 4),.agg #[vV 0,vV 0]]) [] 1 Z Z Tryz.func87 Z ⟨Z,Z,⟨_,Z,LoadsTo.agg (cs:=[vV 0,vV 0]) zbi Z (zaw 0 0 0 Z Z Z)⟩,trivial⟩ (⟨by first | rfl | grind [zc3],Z⟩)
def zpv (l:yB) (i:Nat):Int:=((((l.getD i 0).toNat:Int) * 256 + ((l.getD (i + 1) 0).toNat:Int)) * 256 + ((l.getD (i + 2) 0).toNat:Int)) * 256 + ((l.getD (i + 3) 0).toNat:Int)
theorem zwu {n:Int}(h:Stands b i (be4 n)) (h0:0≤n∧n≤4294967295):zpv b i=n:=by
 have h1:=h.getD (j:=0) (by rw [za3]; decide)
 have h2:=h.getD (j:=1) (by rw [za3]; decide)
 have h3:=h.getD (j:=2) (by rw [za3]; decide)
 have h4:=h.getD (j:=3) (by rw [za3]; decide)
 rw [zDZ] at h1
 rw [zpv,h1,h2,h3,h4]
 show ((((UInt8.ofInt (n / 16777216)).toNat:Int) * 256 + ((UInt8.ofInt (n / 65536)).toNat:Int)) * 256 + ((UInt8.ofInt (n / 256)).toNat:Int)) * 256 + ((UInt8.ofInt n).toNat:Int)=n
 rw [zGt,zGt,zGt,zGt]
 omega
theorem zpu (h:Rd tyB w0 base H A C l) (i:Nat) (hi:i + 4≤l.length) (hl:l.length≤4611686018427387904) :
  SCalls Tryz.prog 159 [.slice A l.length C,vV (i:Int)] w0 base (H) (fun v H' => v = .tuple #[int (zpv l i),int ((i:Int) + 4),.agg #[int 0,int 0]]∧H' = H):=by
 refine zaa (n:=13) Tryz.func159 Z Z Z fun cs => ?_
 refine a4 ?_
 refine AtL.alloc zaH (cs:=#[vV 0,vV 0]) Z zg0 Z ?_
 intro b1
 refine a5 ?_
 refine zca Z (zzS (l:=l) (Rd.skip 1 h) i kQ kQ) ?_
 rintro _ _ ⟨rfl,rfl⟩
 refine a7 ?_
 exact zaE (vs:=[vV (zpv l i),vV ((i:Int) + 4),.agg #[vV 0,vV 0]]) [] 1 Z Z Tryz.func159 Z ⟨Z,Z,⟨_,Z,LoadsTo.agg (cs:=[vV 0,vV 0]) zbi Z (zaw 0 0 0 Z Z Z)⟩,trivial⟩ (⟨Z,Z⟩)
theorem zxg (h:Rd tyB w0 base H A C l) (i n:Nat) (hi:i + n≤l.length) (hl:l.length≤140737488355328) :
  SCalls Tryz.prog 230 [.slice A l.length C,vV (i:Int),vV (n:Int)] w0 base (H) (fun v H' => ∃ A' C' s',Own tyB 5 A' C' (subl l i (i + n)) s'∧v = .tuple #[.slice A' (subl l i (i + n)).length C',int ((i + n:Nat):Int),.agg #[int 0,int 0]]∧H' = s'::H):=by
 refine zaa (n:=45) Tryz.func230 Z Z Z fun cs => ?_
 refine a4 ?_
 refine AtL.alloc zaH (cs:=#[vV 0,vV 0]) Z zg0 Z ?_
 intro b1
 refine a9 ?_
 refine zao false Z (zDl kQ)<|a5 ?_
 refine zjn 5 16 [(21,.bool (decide (((i:Int) < 0)∨((l.length:Int) < (i:Int))))),(0,.slice A l.length C),(1,vV (i:Int)),(2,vV (n:Int)),(8,pB b1)] ?_
 skip
 refine a2 ?_
 refine zao false Z kP<|a10 ?_
 refine zao false Z (zDl kQ)<|a4 ?_
 refine zae (cs:=[]) Z zbO zaF Z Z zg0 Z Z Z ?_
 intro b2
 refine zau tyB (l:=([]:yB)) Z Z kT ?_
 intro s3 o4
 refine a5 ?_
 have hleo7:=Rd.le h
 refine zbC 2 i (i + n) C h (zab Z Z) (zab Z Z) Z (by intro h; cases h) kQ kQ kQ kQ Z zaF zg0 Z Z ?_
 clear hleo7
 intro A5 C6 (o7:Rd tyB w0 base H A5 C6 (subl l i (i + n)))
 have hlo7:(subl l i (i + n)).length=(i + n) - i:=zal kQ
 refine zap (l:=[]) (news:=subl l i (i + n)) 0 zav Z o4 (Rd.skip 2 o7) (by first | omega | (simp only [zC6,zC7,zC8]; omega) | (simp; done) | (simp; omega)) zg0 Z Z Z ?_
 intro A8 C9 s10 o11
 refine a3 ?_
 refine zak (cs:=[vV 0,vV 0]) zbe zg0 Z Z Z<|a4 ?_
 exact zaE (vs:=[.slice A8 ([]++(subl l i (i + n))).length C9,vV ((i:Int) + (n:Int)),.agg #[vV 0,vV 0]]) [0] 2 Z Z Tryz.func230 Z ⟨Z,Z,⟨_,Z,LoadsTo.agg (cs:=[vV 0,vV 0]) zbi Z (zaw 1 0 0 Z Z Z)⟩,trivial⟩ (⟨_,_,_,by first | exact o11 | (have h9:=o11; simpa using h9),Z,Z⟩)
theorem zw6 (h:DOk 6 s):4≤s.length:=by
 obtain ⟨_,_,l,hl⟩:=h
 have hl:Sp [(0,true,false),(0,true,false),(20,false,false)] s l:=hl
 cases hl with
 | name _ h1 => cases h1 with
  | name _ h2 => cases h2 with
   | size hz _ => grind
theorem zwg (s:yB) (hs:s.length≤65535) :
  SCalls Tryz.prog 98 [vV 6,str s] w0 base (H) (fun v H' => ∃ (e:Int) (b:Bool),v = .tuple #[int e,.bool b]∧H' = H):=by
 refine zaa (n:=30) Tryz.func98 Z Z Z fun cs => ?_
 refine a13 ?_
 refine zca Z (ziS 6 s kQ) ?_
 rintro _ _ ⟨e1,hdk2,rfl,hHq⟩
 obtain rfl:=hHq.symm
 refine a3 ?_
 refine zaT Z ?_ ?_
 ·intro hc1
  have hc1:¬ ((e1:Int)=0):=zDm (zat hc1)
  refine a5 ?_
  exact zad Tryz.func98 Z Z (⟨_,_,Z,Z⟩)
 ·intro hc1
  have hc1:(e1:Int)=0:=zDf (zas hc1)
  have hD:DOk 6 s:=hdk2.1 (by first | omega | simpa using hc1)
  have hD4:=zw6 hD
  refine a4 ?_
  refine zcF (l:=s) Z Z Z (by first | omega | (simp only [zC6,zC7,zC8]; omega) | (simp; done) | (simp; omega)) zg0 Z Z ?_
  intro A3 C4 s5 n7 o6
  refine a1 ?_
  refine zbu (l:=s) Z zg0 Z Z ?_
  refine AtL.sub (z:=((s.length - 4:Nat):Int)) zg0 Z Z Z (by rw [w64 kQ kQ]; omega) ?_
  refine zca Z (zpu (l:=s) (o6.rd (i:=0) Z) (s.length - 4:Nat) kQ kQ) ?_
  rintro _ _ ⟨rfl,rfl⟩
  refine a4 ?_
  refine AtL.alloc zaH (cs:=#[vV 0,vV 0]) Z zg0 Z ?_
  intro b8
  refine a10 ?_
  refine zac Z ?_ ?_
  ·intro hc2
   try dsimp only at hc2
   refine a9 ?_
   refine zpk [] 2 ?_
   exact zad Tryz.func98 Z Z (⟨_,_,Z,Z⟩)
  ·intro hc2
   try dsimp only at hc2
   refine a7 ?_
   refine zpk [] 2 ?_
   exact zad Tryz.func98 Z Z (⟨_,_,Z,Z⟩)
theorem zzJ (s:yB) (hs:s.length≤65535) (ht:t=6):SCalls Tryz.prog 98 [int t,str s] w0 base H (fun v H' => ∃ (e:Int) (b:Bool),v = .tuple #[int e,.bool b]∧H' = H):=by
 grind [zwg]
def zjP (f:Int):Int:=IntKind.i64.wrap ((BitVec.ofInt IntKind.i64.bits f &&& BitVec.ofInt IntKind.i64.bits 15).toNat:Int)
def ttls (an:List (yB×Int×Int×Int×yB)):List Int:=an.map fun x => max 0 x.2.2.2.1
theorem zrg (an:List (yB×Int×Int×Int×yB)) (i:Nat) (h:i < an.length):ttls (an.take (i + 1))=ttls (an.take i)++[max 0 (an.getD i rD5).2.2.2.1]:=by
 grind [List.take_succ_eq_append_getElem,List.getD,ttls]
theorem zve (an:List (yB×Int×Int×Int×yB)):(ttls an).length=an.length:=by simp [ttls]
def AgeP (c:Int) (an ns:List (yB×Int×Int×Int×yB)) (z:Int):Prop :=
 ((c=0∨c=3)∧∃ s:List Int,(s=[]∨∃ y,0≤y∧y≤2147483647∧s=[y])∧((c=3∨an=[])∨s=[])∧z ∈ ttls an++s∧∀ u ∈ ttls an++s,z≤u)∨((¬ c=0∧¬ c=3)∧z=0)
theorem AgeP.pos {c:Int}{an ns:List (yB×Int×Int×Int×yB)}(h:AgeP c an ns z):0≤z:=by
 rcases h with ⟨_,s,hs,_,hz,_⟩ | ⟨_,rfl⟩
 ·rcases zDt.1 hz with h | h
  ·obtain ⟨x,_,rfl⟩:=zDC.1 h; omega
  grind
 ·omega
theorem AgeP.zero {c:Int}{an ns:List (yB×Int×Int×Int×yB)}(h:AgeP c an ns z):(c=0∨c=3)∨z=0:=by
 rcases h with ⟨h,_⟩ | ⟨_,h⟩
 ·omega
 omega
theorem AgeP.le {c:Int}{an ns:List (yB×Int×Int×Int×yB)}(h:AgeP c an ns z):∀ x ∈ an,z≤max 0 x.2.2.2.1:=by
 intro x hx
 rcases h with ⟨_,s,_,_,_,h⟩ | ⟨_,rfl⟩
 ·exact h _ (zEp _ (zDC.2 ⟨x,hx,rfl⟩))
 ·omega
theorem AgeP.lt {c:Int}{an ns:List (yB×Int×Int×Int×yB)}(h:AgeP c an ns z) (ha:∀ x ∈ an,ROk x):z < 2147483648:=by
 rcases h with ⟨_,s,hs,_,hz,_⟩ | ⟨_,rfl⟩
 ·rcases zDt.1 hz with h | h
  ·obtain ⟨x,hx,rfl⟩:=zDC.1 h; have:=(ha x hx).2.2.2.1; omega
  grind
 ·omega
theorem ziv {l:List α}{d:α}{P:α→Prop}(h:∀ j,j < l.length→P (l.getD j d)):∀ x ∈ l,P x:=by
 intro x hx
 obtain ⟨j,hj,rfl⟩:=List.mem_iff_getElem.1 hx
 grind
theorem zAy (f:Int) :
  SCalls Tryz.prog 42 [vV f] w0 base (H) (fun v H' => v=int (zjP f)∧H' = H):=by
 refine zaa (n:=5) Tryz.func42 Z Z Z fun cs => ?_
 refine a7 ?_
 refine zpZ (z:=zjP f) zg0 Z Z Z Z<|a2 ?_
 exact zad Tryz.func42 Z Z (⟨Z,Z⟩)
theorem zBu {Cq Ca Cn Cr:Nat}{qs:List (yB×Int×Int)}{an ns ar:List (yB×Int×Int×Int×yB)}(hq:Rd tyQn w0 base H Aq Cq qs) (ha:Rd tyRec w0 base H Aa Ca an) (hn:Rd tyRec w0 base H An Cn ns) (hr:Rd tyRec w0 base H Ar Cr ar) (hns:∀ x ∈ ns,ROk x) :
  SCalls Tryz.prog 43 [.agg #[vV id,vV flags,.slice Aq qs.length Cq,.slice Aa an.length Ca,.slice An ns.length Cn,.slice Ar ar.length Cr]] w0 base (H) (fun v H' => ∃ z:Int,v=int z∧0≤z∧z≤2147483647∧H' = H):=by
 have hleq:=hq.le
 have hcapq:=hq.cap
 have hlea:=ha.le
 have hcapa:=ha.cap
 have hlen:=hn.le
 have hcapn:=hn.cap
 have hler:=hr.le
 have hcapr:=hr.cap
 refine zaa (n:=33) Tryz.func43 Z Z Z fun cs => ?_
 refine a2 ?_
 refine zaU (cs:=#[vV id,vV flags,.slice Aq qs.length Cq,.slice Aa an.length Ca,.slice An ns.length Cn,.slice Ar ar.length Cr]) Z zg0 Z Z ?_
 intro b1
 refine a11 ?_
 refine zpk [] 1 ?_
 refine zbM (fun (i:Nat) => [(8,.slice An ns.length Cn),(9,vV (ns.length:Int)),(10,vV (i:Int))]) (fun i => H) (fun i => i≤ns.length) (fun i => ns.length - i) 0 (zDq _) ⟨Z,Z,Z,trivial⟩ Z ?_
 rintro i hi ihL1
 refine a5 ?_
 refine zac Z ?_ ?_
 ·intro hc1
  try dsimp only at hc1
  have hlt:i < ns.length:=by omega
  refine a5 ?_
  refine zah i hn Z zbs zg0 Z Z Z Z kQ ?_
  refine zaM (n:=0) hn (getD_some rD5 kQ) Z zbF zg0 Z Z<|AtL.alloc zbg (cs:=#[str [],vV 0,vV 0,vV 0,str []]) Z zg0 Z ?_
  intro b2
  refine a8 ?_
  refine zac Z ?_ ?_
  ·intro hc2
   try dsimp only at hc2
   refine a6 ?_
   refine zca Z (zzJ ((ns.getD i rD5).2.2.2.2) ((hns _ (zaA (l:=ns) (i:=i) (d:=rD5) kQ)).2.2.2.2.2.1) hc2) ?_
   rintro _ _ ⟨e3,b4,rfl,rfl⟩
   refine a12 ?_
   refine zaT Z ?_ ?_
   ·intro hc3
    have hc3:b4=false:=zat hc3
    refine a4 ?_
    refine zpk [] 1 ?_
    exact zad Tryz.func43 Z Z (⟨_,Z,by omega,by have h9:=(hns _ (zaA (l:=ns) (i:=i) (d:=rD5) kQ)).2.2.2.1; omega,Z⟩)
   ·intro hc3
    have hc3:b4=true:=zas hc3
    refine a6 ?_
    refine ziw (z:=min ((ns.getD i rD5).2.2.2.1) e3) zg0 Z Z Z kQ ?_
    refine zpX (z:=max 0 (min ((ns.getD i rD5).2.2.2.1) e3)) zg0 Z Z Z kQ<|a2 ?_
    refine zpk [] 1 ?_
    exact zad Tryz.func43 Z Z (⟨_,Z,by omega,by have h9:=(hns _ (zaA (l:=ns) (i:=i) (d:=rD5) kQ)).2.2.2.1; omega,Z⟩)
  ·intro hc2
   try dsimp only at hc2
   refine a6 ?_
   refine zpk [] 1 ?_
   refine ihL1 (i + 1) kQ kQ _ ?_
   exact zen
 ·intro hc1
  try dsimp only at hc1
  refine a5 ?_
  exact zad Tryz.func43 Z Z (⟨_,Z,by omega,by omega,Z⟩)
theorem zsF {a b:Int}{l:List Int}(ha:a ∈ l) (hb:b ∈ l):min a b ∈ l:=by
 grind
theorem zCL {Cq Ca Cn Cr:Nat}{qs:List (yB×Int×Int)}{an ns ar:List (yB×Int×Int×Int×yB)}(hq:Rd tyQn w0 base H Aq Cq qs) (ha:Rd tyRec w0 base H Aa Ca an) (hn:Rd tyRec w0 base H An Cn ns) (hr:Rd tyRec w0 base H Ar Cr ar) (hns:∀ x ∈ ns,ROk x) (hal:an.length≤1000000) :
  SCalls Tryz.prog 16 [.agg #[vV id,vV flags,.slice Aq qs.length Cq,.slice Aa an.length Ca,.slice An ns.length Cn,.slice Ar ar.length Cr]] w0 base (H) (fun v H' => ∃ z:Int,v=int z∧AgeP (zjP flags) an ns z∧H' = H):=by
 have hleq:=hq.le
 have hcapq:=hq.cap
 have hlea:=ha.le
 have hcapa:=ha.cap
 have hlen:=hn.le
 have hcapn:=hn.cap
 have hler:=hr.le
 have hcapr:=hr.cap
 refine zaa (n:=59) Tryz.func16 Z Z Z fun cs => ?_
 refine a2 ?_
 refine zaU (cs:=#[vV id,vV flags,.slice Aq qs.length Cq,.slice Aa an.length Ca,.slice An ns.length Cn,.slice Ar ar.length Cr]) Z zg0 Z Z ?_
 intro b1
 refine a6 ?_
 refine zca Z (zAy flags) ?_
 rintro _ _ ⟨rfl,rfl⟩
 refine a8 ?_
 refine zaI 3 (E':=[(18,.bool (decide ((¬ (((zjP flags):Int)=0))∧(¬ (((zjP flags):Int)=3))))),(1,pB b1),(3,vV (zjP flags))]) (fun J => ?_) ?_
 ·refine zaK (t:=15) Z ?_ ?_
  ·intro hs15
   have hs15:¬ (((zjP flags):Int)=0):=zDm (zat hs15)
   refine a3 ?_
   exact J _ zej
  ·intro hs15
   have hs15:((zjP flags):Int)=0:=zDf (zas hs15)
   refine a3 ?_
   exact J _ zej
 ·refine a1 ?_
  refine zac Z ?_ ?_
  ·intro hc1
   try dsimp only at hc1
   refine a4 ?_
   refine zpk [] 1 ?_
   exact zad Tryz.func16 Z Z (⟨_,Z,.inr ⟨by first | assumption | omega,Z⟩,Z⟩)
  ·intro hc1
   try dsimp only at hc1
   refine a14 ?_
   refine At.nil<|zcC (fun (i:Nat) (x:Sl tyI 3) => [(1,pB b1),(3,vV (zjP flags)),(4,.slice x.A x.l.length x.C),(20,.slice Aa an.length Ca),(21,vV (an.length:Int)),(22,vV (i:Int))]) (fun i x => x.s::O1 b1 id flags Aq qs.length Cq Aa an.length Ca An ns.length Cn Ar ar.length Cr::H) (fun i x => i≤an.length∧x.l=ttls (an.take i)) (fun i x => an.length - i) 0 Sl.nil (⟨zDq _,Z⟩) ⟨Z,Z,Z,Z,Z,Z,trivial⟩ Z ?_
   rintro i x ⟨hi,hx⟩ ihL1
   have hcap:=Own.cap_le x.own
   have hle:=Own.le_cap x.own
   have hxl:x.l.length=i:=by rw [hx,zve,zDs]; omega
   refine a5 ?_
   refine zac Z ?_ ?_
   ·intro hc2
    try dsimp only at hc2
    refine a5 ?_
    refine zah i (Rd.skip 2 ha) Z zbs zg0 Z Z Z Z kQ ?_
    refine zaM (n:=0) (Rd.skip 2 ha) (getD_some rD5 kQ) Z zbF zg0 Z Z<|AtL.alloc zbg (cs:=#[str [],vV 0,vV 0,vV 0,str []]) Z zg0 Z ?_
    intro b2
    refine a6 ?_
    refine zpX (z:=max 0 ((an.getD i rD5).2.2.2.1)) zg0 Z Z Z kQ<|zae (cs:=[vV (max 0 ((an.getD i rD5).2.2.2.1))]) Z zdb zbp Z Z zg0 Z Z Z ?_
    intro b3
    refine zau tyI (l:=([max 0 ((an.getD i rD5).2.2.2.1)]:List Int)) Z Z kT ?_
    intro s4 o5
    refine zap (l:=x.l) (news:=[max 0 ((an.getD i rD5).2.2.2.1)]) 2 zoE Z x.own (o5.rd (i:=0) Z) (by first | omega | (simp only [zC6,zC7,zC8]; omega) | (simp; done) | (simp; omega)) zg0 Z Z Z ?_
    intro A6 C7 s8 o9
    refine a7 ?_
    refine zpk [2,3] 4 ?_
    refine ihL1 (i + 1) (⟨A6,C7,x.l++([max 0 ((an.getD i rD5).2.2.2.1)]),s8,o9⟩) (⟨by omega,by rw [zrg _ _ kQ,← hx]⟩) kQ _ ?_
    exact zen
   ·intro hc2
    try dsimp only at hc2
    rw [zDc kQ] at hx
    refine a7 ?_
    refine zjn 4 35 [(39,.bool (decide ((((zjP flags):Int)=3)∨((x.l.length:Int)=0)))),(1,pB b1),(4,.slice x.A x.l.length x.C)] ?_
    skip
    refine a1 ?_
    refine zac Z ?_ ?_
    ·intro hc3
     try dsimp only at hc3
     refine a3 ?_
     refine zca Z (zBu (id:=id) (flags:=flags) (qs:=qs) (an:=an) (ns:=ns) (ar:=ar) (Rd.skip 2 hq) (Rd.skip 2 ha) (Rd.skip 2 hn) (Rd.skip 2 hr) hns) ?_
     rintro _ _ ⟨zs10,rfl,hz11,hz12,rfl⟩
     refine zae (cs:=[vV zs10]) Z zdb zbp Z Z zg0 Z Z Z ?_
     intro b13
     refine zau tyI (l:=([zs10]:List Int)) Z Z kT ?_
     intro s14 o15
     refine zap (l:=x.l) (news:=[zs10]) 1 zoE Z x.own (o15.rd (i:=0) Z) (by first | omega | (simp only [zC6,zC7,zC8]; omega) | (simp; done) | (simp; omega)) zg0 Z Z Z ?_
     intro A16 C17 s18 o19
     refine a2 ?_
     have hLl:(x.l++[zs10]).length=x.l.length + 1:=by rw [zC6]; rfl
     refine a3 ?_
     refine zah 0 (o19.rd (i:=1) Z) Z zbp zg0 Z Z Z Z kQ ?_
     refine zax (v:=vV ((x.l++[zs10]).getD 0 0)) zcl zg0 Z Z (zaL (o19.rd (i:=1) Z) (getD_some 0 kQ) Z)<|a10 ?_
     refine zcC (fun (i2:Nat) (z2:Int) => [(7,vV z2),(48,.slice A16 (x.l++[zs10]).length C17),(49,vV ((x.l++[zs10]).length:Int)),(50,vV (i2:Int))]) (fun i2 z2 => s14::s18::O1 b1 id flags Aq qs.length Cq Aa an.length Ca An ns.length Cn Ar ar.length Cr::H) (fun i2 z2 => i2≤(x.l++[zs10]).length∧z2 ∈ (x.l++[zs10]:List Int)∧∀ j,j < i2→z2≤(x.l++[zs10]:List Int).getD j 0) (fun i2 z2 => (x.l++[zs10]).length - i2) 0 ((x.l++[zs10]).getD 0 0) (⟨zDq _,zaA (by first | omega | simp),fun j hj => absurd hj kQ⟩) ⟨Z,Z,Z,Z,trivial⟩ Z ?_
     rintro i2 z2 ⟨hi2,hz2,hm2⟩ ihL2
     refine a5 ?_
     refine zac Z ?_ ?_
     ·intro hc4
      try dsimp only at hc4
      refine a5 ?_
      refine zah i2 (o19.rd (i:=1) Z) Z zbp zg0 Z Z Z Z kQ ?_
      refine zax (v:=vV ((x.l++[zs10]).getD i2 0)) zcl zg0 Z Z (zaL (o19.rd (i:=1) Z) (getD_some 0 kQ) Z)<|a5 ?_
      refine ziw (z:=min z2 ((x.l++[zs10]).getD i2 0)) zg0 Z Z Z kQ<|a7 ?_
      refine ihL2 (i2 + 1) (min z2 ((x.l++[zs10]).getD i2 0)) (⟨by omega,zsF hz2 (zaA kQ),fun j hj => by rcases zEw j i2 with h9 | h9; have:=hm2 j h9; omega; obtain rfl:j=i2:=kQ; omega⟩) kQ _ ?_
      exact zen
     ·intro hc4
      try dsimp only at hc4
      refine a6 ?_
      refine zpk [] 3 ?_
      exact zad Tryz.func16 Z Z (⟨_,Z,.inl ⟨by omega,[zs10],.inr ⟨zs10,hz11,hz12,Z⟩,.inl (hc3.imp (fun h8 => h8) fun h9 => zDk kQ),hx ▸ hz2,by rw [← hx]; exact ziv (d:=0) fun j hj => hm2 j kQ⟩,Z⟩)
    ·intro hc3
     try dsimp only at hc3
     refine a4 ?_
     refine zah 0 (x.own.rd (i:=0) Z) Z zbp zg0 Z Z Z Z kQ ?_
     refine zax (v:=vV (x.l.getD 0 0)) zcl zg0 Z Z (zaL (x.own.rd (i:=0) Z) (getD_some 0 kQ) Z)<|a10 ?_
     refine zcC (fun (i2:Nat) (z2:Int) => [(7,vV z2),(48,.slice x.A x.l.length x.C),(49,vV (x.l.length:Int)),(50,vV (i2:Int))]) (fun i2 z2 => x.s::O1 b1 id flags Aq qs.length Cq Aa an.length Ca An ns.length Cn Ar ar.length Cr::H) (fun i2 z2 => i2≤(x.l).length∧z2 ∈ (x.l:List Int)∧∀ j,j < i2→z2≤(x.l:List Int).getD j 0) (fun i2 z2 => (x.l).length - i2) 0 (x.l.getD 0 0) (⟨zDq _,zaA (by first | omega | simp),fun j hj => absurd hj kQ⟩) ⟨Z,Z,Z,Z,trivial⟩ Z ?_
     rintro i2 z2 ⟨hi2,hz2,hm2⟩ ihL2
     refine a5 ?_
     refine zac Z ?_ ?_
     ·intro hc4
      try dsimp only at hc4
      refine a5 ?_
      refine zah i2 (x.own.rd (i:=0) Z) Z zbp zg0 Z Z Z Z kQ ?_
      refine zax (v:=vV (x.l.getD i2 0)) zcl zg0 Z Z (zaL (x.own.rd (i:=0) Z) (getD_some 0 kQ) Z)<|a5 ?_
      refine ziw (z:=min z2 (x.l.getD i2 0)) zg0 Z Z Z kQ<|a7 ?_
      refine ihL2 (i2 + 1) (min z2 (x.l.getD i2 0)) (⟨by omega,zsF hz2 (zaA kQ),fun j hj => by rcases zEw j i2 with h9 | h9; have:=hm2 j h9; omega; obtain rfl:j=i2:=kQ; omega⟩) kQ _ ?_
      exact zen
     ·intro hc4
      try dsimp only at hc4
      refine a6 ?_
      refine zpk [] 2 ?_
      exact zad Tryz.func16 Z Z (⟨_,Z,.inl ⟨by omega,[],.inl Z,.inr Z,by rw [zDO,← hx]; exact hz2,by rw [zDO,← hx]; exact ziv (d:=0) fun j hj => hm2 j kQ⟩,Z⟩)
def crlf (c:UInt8):Bool:=c=13 || c=10
def zbN (c:UInt8):Bool:=c=9 || c=32
theorem zwV (p:UInt8→Bool) (l:yB):(l.dropWhile p).length≤l.length:=by
 induction l with
 | nil => simp
 | cons c l ih => grind [List.dropWhile_cons]
def tl (p:UInt8→Bool) (l:yB):yB:=l.dropWhile p
def tr (p:UInt8→Bool) (l:yB):yB:=(l.reverse.dropWhile p).reverse
theorem zg9 (p:UInt8→Bool) (l:yB) (c:UInt8):tr p (l++[c])=if p c then tr p l else l++[c]:=by
 grind [tr,List.reverse_append,List.reverse_cons,List.reverse_nil,List.singleton_append,List.dropWhile_cons]
theorem zrk (p:UInt8→Bool) (l:yB) (c:UInt8):tl p (l++[c])=if tl p l=[] then (if p c then [] else [c]) else tl p l++[c]:=by
 induction l with
 | nil => simp [tl,zFn]
 | cons d l ih =>
  grind [tl,List.dropWhile_cons]
theorem zhg (l:yB):l=[]∨∃ k c,l=k++[c]:=by
 rcases List.eq_nil_or_concat l with h | ⟨k,c,h⟩
 ·grind
 grind
theorem zBn (p:UInt8→Bool) (l:yB):tl p (tr p l)=tr p (tl p l):=by
 induction l using (measure List.length).wf.induction with
 | _ l ih =>
  rcases zhg l with rfl | ⟨k,c,rfl⟩
  ·rfl
  ·rw [zg9,zrk]
   have hk:=ih k (show k.length < (k++[c]).length by simp)
   by_cases hc:p c=true
   ·rw [zDi hc,hk]
    by_cases h2:tl p k=[]
    ·grind
    simp_all [zDb,zg9,zDi]
   ·rw [zDb hc,zrk]
    by_cases h2:tl p k=[]
    ·rw [zDi h2,zDb hc]
     have:=zg9 p [] c
     grind
    simp_all [zDb,zg9]
def zjG (l:yB):yB:=tr zbN (tl zbN l)
theorem zoA (l:yB):Lib.trimS l [9,32]=zjG l:=by
 have h:(fun c => ([9,32]:yB).contains c)=zbN:=by
  grind [zbN]
 unfold Lib.trimS Lib.trimLeftS Lib.trimRightS zjG
 rw [h]
 exact zBn zbN l
def lowB (c:UInt8):UInt8:=if 65≤c∧c≤90 then c + 32 else c
def za4 (l:yB):yB:=l.map lowB
def zeu (c:UInt8):Bool:=!(c≠9 && c < 32) && c≠127
def zdZ (l:yB):Bool:=l.all zeu && decide (zjG l=l)
theorem ziB (l:yB):zjG l=l↔(l=[]∨(zbN (l.getD 0 0)=false∧zbN (l.getD (l.length - 1) 0)=false)):=by
 constructor
 ·intro h
  by_cases h0:l=[]
  ·grind
  ·right
   have hlen:(tl zbN l).length≤l.length:=by grind [tl,zwV]
   have hlen2:(tr zbN (tl zbN l)).length≤(tl zbN l).length:=by grind [tr,List.length_reverse,Nat.le_trans,zwV]
   have e:(tr zbN (tl zbN l)).length=l.length:=by grind [zjG]
   constructor
   ·cases l with
    | nil => grind
    | cons c l =>
     show zbN c=false
     cases hb:zbN c with
     | false => rfl
     | true =>
      exfalso
      have:tl zbN (c::l)=tl zbN l:=by unfold tl; simp_all
      grind [tl,zbN,zwV]
   ·rcases zhg l with h1 | ⟨k,c,rfl⟩
    ·grind
    ·have:(k++[c]).getD ((k++[c]).length - 1) 0=c:=by simp
     rw [this]
     cases hb:zbN c with
     | false => rfl
     | true =>
      exfalso
      have h2:zjG (k++[c])=tl zbN (tr zbN (k++[c])):=(zBn _ _).symm
      rw [zg9,zDi hb] at h2
      grind [tl,zbN,tr,Nat.le_trans,zwV,List.length_reverse]
 ·rintro (rfl | ⟨h1,h2⟩)
  ·rfl
  ·have ha:tl zbN l=l:=by
    cases l with
    | nil => rfl
    | cons c l => unfold tl; simp_all
   unfold zjG
   rw [ha]
   rcases zhg l with rfl | ⟨k,c,rfl⟩
   ·rfl
   simp_all [zg9,zDb]
def LET:yB:=[48,49,50,51,52,53,54,55,56,57,65,66,67,68,69,70,71,72,73,74,75,76,77,78,79,80,81,82,83,84,85,86,87,88,89,90,97,98,99,100,101,102,103,104,105,106,107,108,109,110,111,112,113,114,115,116,117,118,119,120,121,122,33,35,36,37,38,39,42,43,45,46,94,95,96,124,126]
def zhn (c:UInt8):Bool :=
 decide ((((48≤c.toNat∧c.toNat≤57)∨(65≤c.toNat∧c.toNat≤90))∨(97≤c.toNat∧c.toNat≤122)) ∨
  (c.toNat=33∨(35≤c.toNat∧c.toNat≤39)∨c.toNat=42∨c.toNat=43∨c.toNat=45∨c.toNat=46∨(94≤c.toNat∧c.toNat≤96)∨c.toNat=124∨c.toNat=126))
theorem zzF:((List.range 256).all fun n => zhn (UInt8.ofNat n) == LET.contains (UInt8.ofNat n))=true:=by decide +kernel
theorem zsR (c:UInt8):zhn c=LET.contains c:=by
 have h:=zDa.1 zzF c.toNat (zD1.2 (by have:=c.toNat_lt; omega))
 simp_all
def zcD (s:yB) (most:Int):Bool:=decide (1≤s.length∧(s.length:Int)≤most) && s.all zhn
def zfs (s:yB):Bool:=decide (s.head? = some 47) && s.all fun c => decide (33≤c.toNat∧c.toNat≤126)
def allF (fs:List (yB×yB)) (name:yB):List yB:=(fs.filter fun f => za4 f.1=za4 name).map (·.2)
def zd8 (fs:List (yB×yB)) (name:yB):yB×Nat:=((allF fs name).headD [],(allF fs name).length)
def HOST:yB:=[104,111,115,116]
def zmt (fs:List (yB×yB)) (minor:Int):Bool:=decide ((zd8 fs HOST).2=1∨((zd8 fs HOST).2=0∧minor=0))
abbrev Fld:=yB×yB
structure HeadV where
  m:yB
  t:yB
  minor:Int
  fs:List Fld
deriving DecidableEq
def HeadV.zero:HeadV:=⟨[],[],0,[]⟩
def zbt (f:Fld):Bool:=zcD f.1 64 && zdZ f.2
def okF (h:HeadV):Bool :=
 zcD h.m 16 && decide (h.t.length≤2048) && zfs h.t && decide (0≤h.minor∧h.minor≤1) && decide (h.fs.length≤32) && h.fs.all zbt && zmt h.fs h.minor
def zxB:yB:=[72,84,84,80,47,49,46]
def zji (f:Fld):yB:=f.1++58::32::f.2
def zjh:List Fld→yB
 | [] => [13,10]
 | f::fs => zji f++13::10::zjh fs
def zsQ (h:HeadV):yB:=h.m++32::(h.t++32::(zxB++[UInt8.ofNat (48 + h.minor.toNat)]))
def zlq (h:HeadV):yB:=zsQ h++13::10::zjh h.fs
def zeN (h:HeadV):Bool:=okF h && decide ((zlq h).length≤4096)
theorem zlz {q:UInt8→Bool}(l:yB) (h:l.all p=true) (hq:∀ c,p c=true→q c=false):l.any q=false:=by
 grind
theorem zi7:∀ c:UInt8,zhn c=true→(crlf c=false∧(c == 32)=false∧(c == 58)=false):=by
 intro c h
 rw [zsR] at h
 have h1:c ∈ LET:=by grind
 have h2:∀ c ∈ LET,(crlf c=false∧(c == 32)=false∧(c == 58)=false):=by decide +kernel
 grind
theorem zyB {n:Int}(h:zcD s n=true):s≠[]∧s.any crlf=false∧s.any (fun x => x == 32)=false∧s.any (fun x => x == 58)=false:=by
 simp only [zcD,zC9,zD7] at h
 refine ⟨?_,zlz s h.2 fun c hc => (zi7 c hc).1,zlz s h.2 fun c hc => (zi7 c hc).2.1,zlz s h.2 fun c hc => (zi7 c hc).2.2⟩
 grind
theorem zvb (h:zdZ s=true):s.any crlf=false∧zjG s=s:=by
 simp only [zdZ,zC9,zD7] at h
 refine ⟨zlz s h.1 fun c hc => ?_,h.2⟩
 simp only [crlf,zEq,zDY]
 constructor <;> (rintro rfl; revert hc; decide)
def CLEN:yB:=[99,111,110,116,101,110,116,45,108,101,110,103,116,104]
def TENC:yB:=[116,114,97,110,115,102,101,114,45,101,110,99,111,100,105,110,103]
def CONN:yB:=[99,111,110,110,101,99,116,105,111,110]
def zvz (s:yB):Option Nat:=if s.length≤10 then Go.Lib.decNat s else none
theorem zAo (s:yB) (n:Nat):(Go.Lib.decFrom n s).isSome=s.all fun c => decide (48≤c.toNat∧c.toNat≤57):=by
 induction s generalizing n with
 | nil => rfl
 | cons a s ih =>
  rw [Go.Lib.decFrom,zFj]
  by_cases h:48≤a.toNat∧a.toNat≤57
  ·rw [Go.Lib.digitVal,zDi h]; grind
  ·rw [Go.Lib.digitVal,zDb h]; simp [h]
theorem zrT (h:zvz s=some n):Go.Lib.atoi s=some (n:Int):=by
 rw [zvz] at h
 split at h
 ·cases s with
  | nil => cases h
  | cons a s =>
   have h1:=zAo (a::s) 0
   have h2:Go.Lib.decFrom 0 (a::s)=some n:=h
   rw [h2] at h1
   have h3:48≤a.toNat:=by
    grind
   have h4:(a == 45)=false:=by
    rw [zFG]; rintro rfl; grind
   have h5:(a == 43)=false:=by
    rw [zFG]; rintro rfl; grind
   rw [Go.Lib.atoi]
   grind
 grind
def decF (n:Nat):yB:=if n < 10 then [UInt8.ofNat (48 + n)] else decF (n / 10)++[UInt8.ofNat (48 + n % 10)]
theorem zn1 (a:yB) (c:UInt8) (k n m:Nat) (d:Nat) (h:Go.Lib.decFrom k a=some n) (hd:Go.Lib.digitVal c=some d) (hm:m=n * 10 + d):Go.Lib.decFrom k (a++[c])=some m:=by
 induction a generalizing k with
 | nil => grind [Go.Lib.decFrom]
 | cons x a ih =>
  rw [zDr,Go.Lib.decFrom]
  rw [Go.Lib.decFrom] at h
  split at h
  ·grind
  grind
theorem ztR:∀ n:Fin 10,Go.Lib.digitVal (UInt8.ofNat (48 + n.val))=some n.val:=by decide +kernel
theorem zf9 (n:Nat):Go.Lib.decFrom 0 (decF n)=some n∧decF n≠[]∧(∀ k,n < 10 ^ (k + 1)→(decF n).length≤k + 1):=by
 induction n using Nat.strongRecOn with
 | _ n ih =>
  rw [decF]
  split
  ·rename_i h
   refine ⟨?_,by simp,fun k _ => by simp⟩
   have:=ztR ⟨n,h⟩
   grind [Go.Lib.decFrom]
  ·rename_i h
   obtain ⟨i1,i2,i3⟩:=ih (n / 10) kQ
   refine ⟨zn1 _ _ 0 _ _ (n % 10) i1 (ztR ⟨n % 10,by omega⟩) kQ,by simp,fun k hk => ?_⟩
   cases k with
   | zero => omega
   | succ k =>
    have:=i3 k kQ
    grind
theorem zvy (n:Nat) (h:n≤1073741824):zvz (decF n)=some n:=by
 obtain ⟨i1,i2,i3⟩:=zf9 n
 have h1:=i3 9 kQ
 rw [zvz,zDi h1,Go.Lib.decNat]
 grind
def CL1:yB:=[67,111,110,116,101,110,116,45,76,101,110,103,116,104]
def zc4 (f:UInt8→UInt8) (l:yB) (k:Nat):yB:=(l.take k).map f++l.drop k
theorem za7 (f:UInt8→UInt8) (l:yB) (k:Nat):(zc4 f l k).length=l.length:=by simp [zc4]; omega
theorem zqt (f:UInt8→UInt8) (l:yB):zc4 f l 0=l:=by simp [zc4]
theorem zsH (f:UInt8→UInt8) (l:yB):zc4 f l l.length=l.map f:=by simp [zc4]
theorem zi5 (f:UInt8→UInt8) (l:yB) (k:Nat) (h:k < l.length):(zc4 f l k).getD k 0=l.getD k 0:=by
 have hl:((l.take k).map f).length=k:=by simp; omega
 simp only [zc4,List.getD]
 rw [zEy kQ,hl,zF6,zEo,zDZ]
theorem zml (f:UInt8→UInt8) (l:yB) (k:Nat) (h:k < l.length):(zc4 f l k).set k (f (l.getD k 0))=zc4 f l (k + 1):=by
 have hl:((l.take k).map f).length=k:=by simp; omega
 unfold zc4
 rw [List.set_append_right _ _ kQ,hl,zF6]
 rw [zF2 h,List.set_cons_zero]
 rw [zDA h,zDL]
 simp [List.getD,h]
theorem zqu (f:UInt8→UInt8) (l:yB) (k:Nat) (h:k < l.length) (hf:f (l.getD k 0)=l.getD k 0):zc4 f l (k + 1)=zc4 f l k:=by
 rw [← zml f l k h,hf,← zi5 f l k h]
 apply zFf kY
 intro i h1 h2
 rw [zF4]
 split
 ·rename_i h3; subst h3; simp [List.getD,h2]
 ·rfl
theorem zzB (h:(65:Int)≤(c.toNat:Int)∧(c.toNat:Int)≤90):lowB c=c + 32:=by
 rw [lowB,zDi ⟨by show (65:Nat)≤c.toNat; omega,by show c.toNat≤90; omega⟩]
theorem zzC (h:¬ ((65:Int)≤(c.toNat:Int)∧(c.toNat:Int)≤90)):lowB c=c:=by
 rw [lowB,zDb]
 rintro ⟨h1,h2⟩
 have h1:(65:Nat)≤c.toNat:=h1
 have h2:c.toNat≤90:=h2
 omega
theorem add32 (h:(65:Int)≤(c.toNat:Int)∧(c.toNat:Int)≤90):IntKind.u8.wrap ((c.toNat:Int) + 32)=((lowB c).toNat:Int):=by
 rw [zzB h,UInt8.toNat_add]
 have h2:(c.toNat + (32:UInt8).toNat) % 2 ^ 8=c.toNat + 32:=by
  rw [show (32:UInt8).toNat=32 from rfl]; omega
 rw [h2]
 exact w8 kQ kQ
theorem zpa (hl:l.length≤140737488355000) :
  SCalls Tryz.prog 187 [str l] w0 base (H) (fun v H' => v=str (za4 l)∧H' = H):=by
 refine zaa (n:=29) Tryz.func187 Z Z Z fun cs => ?_
 refine a7 ?_
 refine zcF (l:=l) Z Z Z (by first | omega | (simp only [zC6,zC7,zC8]; omega) | (simp; done) | (simp; omega)) zg0 Z Z ?_
 intro A1 C2 s3 n5 o4
 refine a10 ?_
 refine zcC (fun (k:Nat) (s2:Seg) => [(3,.slice A1 (zc4 lowB l k).length C2),(8,.slice A1 (zc4 lowB l k).length C2),(9,vV (l.length:Int)),(10,vV (k:Int))]) (fun k s2 => s2::H) (fun k s2 => k≤l.length∧Own tyB 5 A1 (C2) (zc4 lowB l k) s2) (fun k s2 => l.length - k) 0 s3 (⟨zDq _,by rw [zqt]; exact o4⟩) ⟨Z,Z,Z,Z,trivial⟩ Z ?_
 rintro k s2 ⟨hk,ho⟩ ihL1
 have hlen:=za7 lowB l k
 have hcap:=Own.cap_le ho
 have hle:=Own.le_cap ho
 refine a5 ?_
 refine zac Z ?_ ?_
 ·intro hc1
  try dsimp only at hc1
  refine a6 ?_
  refine zah k (ho.rd (i:=0) Z) Z zaF zg0 Z Z Z Z kQ ?_
  refine zax (v:=.int .u8 (((zc4 lowB l k).getD k 0).toNat:Int)) zcP zg0 Z Z (zaL (ho.rd (i:=0) Z) (getD_some 0 kQ) Z)<|a8 ?_
  refine zjn 3 17 [(20,.bool (decide ((65≤(((zc4 lowB l k).getD k 0).toNat:Int))∧((((zc4 lowB l k).getD k 0).toNat:Int)≤90)))),(3,.slice A1 (zc4 lowB l k).length C2),(4,vV (k:Int)),(5,.int .u8 (((zc4 lowB l k).getD k 0).toNat:Int)),(8,.slice A1 (zc4 lowB l k).length C2),(9,vV (l.length:Int)),(10,vV (k:Int))] ?_
  skip
  refine a1 ?_
  refine zac Z ?_ ?_
  ·intro hc2
   try dsimp only at hc2
   refine a4 ?_
   refine AtL.add (z:=(lowB ((zc4 lowB l k).getD k 0)).toNat) zg0 Z Z Z (add32 hc2) ?_
   refine zah k (ho.rd (i:=0) Z) Z zaF zg0 Z Z Z Z kQ ?_
   refine zkJ (u:=(lowB ((zc4 lowB l k).getD k 0))) 0 k zaF Z ho kQ zg0 Z Z ?_
   intro s6 o7
   refine zg5 (m:=((zc4 lowB l k).set k (lowB ((zc4 lowB l k).getD k 0))).length) 3 Z (zGg)<|zg5 (m:=((zc4 lowB l k).set k (lowB ((zc4 lowB l k).getD k 0))).length) 8 Z (zGg)<|a6 ?_
   refine ihL1 (k + 1) s6 (⟨by omega,by rw [← zml _ _ _ kQ,← zi5 lowB l k kQ]; exact o7⟩) kQ _ ?_
   exact ⟨(by first | rfl | exact zgE (by simp [za7]) | exact zgP kQ | exact zgP (by simp [za7]) | exact zgE (by simp [za7]; omega)),(by first | rfl | exact zgE (by simp [za7]) | exact zgP kQ | exact zgP (by simp [za7]) | exact zgE (by simp [za7]; omega)),Z,(by first | rfl | exact zgE (by simp [za7]) | exact zgP kQ | exact zgP (by simp [za7]) | exact zgE (by simp [za7]; omega)),trivial⟩
  ·intro hc2
   try dsimp only at hc2
   refine a6 ?_
   refine ihL1 (k + 1) s2 (⟨by omega,by rw [zqu _ _ _ kQ (by rw [← zi5 lowB l k kQ]; exact zzC hc2)]; exact ho⟩) kQ _ ?_
   exact ⟨(by first | rfl | exact zgE (by simp [za7]) | exact zgP kQ | exact zgP (by simp [za7]) | exact zgE (by simp [za7]; omega)),(by first | rfl | exact zgE (by simp [za7]) | exact zgP kQ | exact zgP (by simp [za7]) | exact zgE (by simp [za7]; omega)),Z,(by first | rfl | exact zgE (by simp [za7]) | exact zgP kQ | exact zgP (by simp [za7]) | exact zgE (by simp [za7]; omega)),trivial⟩
 ·intro hc1
  try dsimp only at hc1
  obtain rfl:k=l.length:=by omega
  refine a4 ?_
  refine zcw (ho.rd (i:=0) Z) Z Z Z zg0 Z Z<|a2 ?_
  refine zpk [] 1 ?_
  exact zad Tryz.func187 Z Z (⟨zDh str (by rw [zsH,za4]),Z⟩)
theorem ziH (l:yB) (k:Nat) (h:k < l.length):l.take (k + 1)=l.take k++[l.getD k 0]:=by
 rw [zDA h]; simp [List.getD,h]
theorem zly (h:k < l.length) (ha:(l.take k).all p=true) (hp:p (l.getD k 0)=true):(l.take (k + 1)).all p=true:=by
 rw [ziH l k h,zEP,ha]; simpa using hp
theorem zob (h:k < l.length) (hp:p (l.getD k 0)=false):l.all p=false:=by
 rw [List.all_eq_false]
 refine ⟨l.getD k 0,?_,by rw [hp]; simp⟩
 simp [List.getD,h]
theorem zoa (h:l.length≤k) (ha:(l.take k).all p=true):l.all p=true:=by
 rw [zDc h] at ha; exact ha
theorem znm (hn:n < 256):(c.toNat:Int)=(n:Int)↔c=UInt8.ofNat n:=by
 constructor
 ·intro h
  have h:c.toNat=n:=by omega
  apply zFE.1
  rw [h,zE0 hn]
 ·rintro rfl
  rw [zE0 hn]
theorem zpJ (c:UInt8) :
  SCalls Tryz.prog 496 [.int .u8 (c.toNat:Int)] w0 base (H) (fun v H' => v = .bool (decide ((c.toNat:Int)=9∨(c.toNat:Int)=32))∧H' = H):=by
 refine zaa (n:=9) Tryz.func496 Z Z Z fun cs => ?_
 refine a9 ?_
 refine zjn 3 5 [(8,.bool (decide (((c.toNat:Int)=9)∨((c.toNat:Int)=32))))] ?_
 skip
 refine a2 ?_
 exact zad Tryz.func496 Z Z (⟨zDh Value.bool (zEM.2 kQ),Z⟩)
def zvj (c:UInt8):Bool:=decide (33≤c.toNat∧c.toNat≤126)
theorem zrl (h:¬ ((c.toNat:Int) < 33∨126 < (c.toNat:Int))):zvj c=true:=zDI kQ
theorem zvi (h:(c.toNat:Int) < 33∨126 < (c.toNat:Int)):zvj c=false:=zDl kQ
theorem ziG (l:yB):zfs l=(decide (l.head? = some 47) && l.all zvj):=rfl
theorem zzQ (l:yB):(l.head? = some 47)↔(l≠[]∧((l.getD 0 0).toNat:Int)=47):=by
 cases l with
 | nil => simp
 | cons c l =>
  simp only [List.head?_cons,zEH,ne_eq,reduceCtorEq,not_false_eq_true,true_and]
  exact (znm (c:=c) (n:=47) kQ).symm
theorem zrd (h:¬ (¬ (c.toNat:Int)=9∧((c.toNat:Int) < 32∨(c.toNat:Int)=127))):zeu c=true:=by
 have h9:=znm (c:=c) (n:=9) kQ
 have h127:=znm (c:=c) (n:=127) kQ
 have hlt:c < 32↔(c.toNat:Int) < 32:=by
  constructor
  ·intro h; have:c.toNat < 32:=h; omega
  ·intro h; show c.toNat < 32; omega
 simp only [zeu,zC9,zDQ,zFa,zDY,zD7,ne_eq,Decidable.not_not,hlt]
 by_cases h1:(c.toNat:Int)=9
 ·have:c=9:=h9.1 h1
  subst this; exact ⟨.inl rfl,by decide⟩
 ·refine ⟨.inr (fun h2 => h ⟨h1,.inl h2⟩),fun h2 => h ⟨h1,.inr (h127.2 h2)⟩⟩
theorem zvc (h:¬ (c.toNat:Int)=9∧((c.toNat:Int) < 32∨(c.toNat:Int)=127)):zeu c=false:=by
 have h9:=znm (c:=c) (n:=9) kQ
 have h127:=znm (c:=c) (n:=127) kQ
 have hlt:c < 32↔(c.toNat:Int) < 32:=by
  constructor
  ·intro h; have:c.toNat < 32:=h; omega
  ·intro h; show c.toNat < 32; omega
 have h1:¬ c=9:=fun h2 => h.1 (h9.2 h2)
 rcases h.2 with h2 | h2
 ·simp only [zeu,ne_eq,h1,not_false_eq_true,decide_true,hlt.2 h2,Bool.and_self,zFz,zEX]
 ·have:c=127:=h127.1 h2
  subst this; decide
theorem zrc (l:yB) (h:l.all zeu=true):zdZ l=decide (l=[]∨(¬ (((l.getD 0 0).toNat:Int)=9∨((l.getD 0 0).toNat:Int)=32)∧¬ (((l.getD (Int.toNat ((l.length:Int) - 1)) 0).toNat:Int)=9∨((l.getD (Int.toNat ((l.length:Int) - 1)) 0).toNat:Int)=32))):=by
 have key:∀ c:UInt8,zbN c=false↔¬ ((c.toNat:Int)=9∨(c.toNat:Int)=32):=by
  intro c
  have h9:=znm (c:=c) (n:=9) kQ
  have h32:=znm (c:=c) (n:=32) kQ
  simp only [zbN,zEq,zDY,zGb]
  exact and_congr (not_congr h9.symm) (not_congr h32.symm)
 rw [show Int.toNat ((l.length:Int) - 1)=l.length - 1 by omega,zdZ,h,zFU]
 exact zEM.2 ((ziB l).trans (by rw [key,key]))
theorem zrI (hl:l.length≤140737488355000) :
  SCalls Tryz.prog 461 [str l] w0 base (H) (fun v H' => v = .bool (zfs l)∧H' = H):=by
 refine zaa (n:=26) Tryz.func461 Z Z Z fun cs => ?_
 refine a8 ?_
 refine zcF (l:=l) Z Z Z (by first | omega | (simp only [zC6,zC7,zC8]; omega) | (simp; done) | (simp; omega)) zg0 Z Z ?_
 intro A1 C2 s3 n5 o4
 refine a4 ?_
 refine zbM (fun (k:Nat) => [(0,str l),(6,.slice A1 l.length C2),(7,vV (l.length:Int)),(8,vV (k:Int))]) (fun k => s3::H) (fun k => k≤l.length∧(l.take k).all zvj=true) (fun k => l.length - k) 0 (⟨zDq _,Z⟩) ⟨Z,Z,Z,Z,trivial⟩ Z ?_
 rintro k ⟨hk,ha⟩ ihL1
 refine a5 ?_
 refine zac Z ?_ ?_
 ·intro hc1
  try dsimp only at hc1
  refine a5 ?_
  refine zah k (o4.rd (i:=0) Z) Z zaF zg0 Z Z Z Z kQ ?_
  refine zax (v:=.int .u8 ((l.getD k 0).toNat:Int)) zcP zg0 Z Z (zaL (o4.rd (i:=0) Z) (getD_some 0 kQ) Z)<|a7 ?_
  refine zjn 3 14 [(17,.bool (decide ((((l.getD k 0).toNat:Int) < 33)∨(126 < ((l.getD k 0).toNat:Int))))),(0,str l),(6,.slice A1 l.length C2),(7,vV (l.length:Int)),(8,vV (k:Int))] ?_
  skip
  refine a1 ?_
  refine zac Z ?_ ?_
  ·intro hc2
   try dsimp only at hc2
   refine a4 ?_
   refine zpk [] 1 ?_
   exact zad Tryz.func461 Z Z (⟨zDh Value.bool (by rw [ziG,zob kQ (zvi hc2),zFc]),Z⟩)
  ·intro hc2
   try dsimp only at hc2
   refine a6 ?_
   refine ihL1 (k + 1) (⟨by omega,zly kQ ha (zrl hc2)⟩) kQ _ ?_
   exact zen
 ·intro hc1
  try dsimp only at hc1
  refine a4 ?_
  refine zjy (a:=l) (b:=[]) zg0 Z Z Z<|a1 ?_
  refine zaI 4 (E':=[(25,.bool (decide ((¬ (l=[]))∧(((l.getD 0 0).toNat:Int)=47))))]) (fun J => ?_) ?_
  ·refine zaK (t:=21) Z ?_ ?_
   ·intro hs21
    have hs21:¬ (l=[]):=zDm (zat hs21)
    have hpos:=zE3.2 hs21
    refine a1 ?_
    refine zbD (l:=l) 0 Z kQ Z (.inr ⟨_,_,_,Z,Z,Z,Z⟩) Z Z Z<|a2 ?_
    exact J _ zej
   ·intro hs21
    have hs21:l=[]:=zDf (zas hs21)
    refine a4 ?_
    exact J _ zej
  ·refine a2 ?_
   refine zpk [] 1 ?_
   exact zad Tryz.func461 Z Z (⟨zDh Value.bool (by rw [ziG,zoa kQ ha,zFV]; exact zEM.2 (zzQ l).symm),Z⟩)
theorem zva (hl:l.length≤140737488355000) :
  SCalls Tryz.prog 462 [str l] w0 base (H) (fun v H' => v = .bool (zdZ l)∧H' = H):=by
 refine zaa (n:=40) Tryz.func462 Z Z Z fun cs => ?_
 refine a8 ?_
 refine zcF (l:=l) Z Z Z (by first | omega | (simp only [zC6,zC7,zC8]; omega) | (simp; done) | (simp; omega)) zg0 Z Z ?_
 intro A1 C2 s3 n5 o4
 refine a4 ?_
 refine zbM (fun (k:Nat) => [(0,str l),(6,.slice A1 l.length C2),(7,vV (l.length:Int)),(8,vV (k:Int))]) (fun k => s3::H) (fun k => k≤l.length∧(l.take k).all zeu=true) (fun k => l.length - k) 0 (⟨zDq _,Z⟩) ⟨Z,Z,Z,Z,trivial⟩ Z ?_
 rintro k ⟨hk,ha⟩ ihL1
 refine a5 ?_
 refine zac Z ?_ ?_
 ·intro hc1
  try dsimp only at hc1
  refine a5 ?_
  refine zah k (o4.rd (i:=0) Z) Z zaF zg0 Z Z Z Z kQ ?_
  refine zax (v:=.int .u8 ((l.getD k 0).toNat:Int)) zcP zg0 Z Z (zaL (o4.rd (i:=0) Z) (getD_some 0 kQ) Z)<|a7 ?_
  refine zaI 7 (E':=[(21,.bool (decide ((¬ (((l.getD k 0).toNat:Int)=9))∧((((l.getD k 0).toNat:Int) < 32)∨(((l.getD k 0).toNat:Int)=127))))),(0,str l),(6,.slice A1 l.length C2),(7,vV (l.length:Int)),(8,vV (k:Int))]) (fun J => ?_) ?_
  ·refine zaK (t:=14) Z ?_ ?_
   ·intro hs14
    have hs14:¬ (((l.getD k 0).toNat:Int)=9):=zDm (zat hs14)
    refine a3 ?_
    refine zjn 3 17 [(20,.bool (decide ((((l.getD k 0).toNat:Int) < 32)∨(((l.getD k 0).toNat:Int)=127)))),(0,str l),(6,.slice A1 l.length C2),(7,vV (l.length:Int)),(8,vV (k:Int)),(14,.bool true)] ?_
    skip
    refine a1 ?_
    exact J _ zej
   ·intro hs14
    have hs14:((l.getD k 0).toNat:Int)=9:=zDf (zas hs14)
    refine a3 ?_
    refine zaD Z Z Z Z Z<|zaD Z Z Z Z Z<|a2 ?_
    exact J _ zej
  ·refine a1 ?_
   refine zac Z ?_ ?_
   ·intro hc2
    try dsimp only at hc2
    refine a4 ?_
    refine zpk [] 1 ?_
    exact zad Tryz.func462 Z Z (⟨zDh Value.bool (by rw [zdZ,zob kQ (zvc hc2),zEX]),Z⟩)
   ·intro hc2
    try dsimp only at hc2
    refine a6 ?_
    refine ihL1 (k + 1) (⟨by omega,zly kQ ha (zrd hc2)⟩) kQ _ ?_
    exact zen
 ·intro hc1
  try dsimp only at hc1
  refine a4 ?_
  refine zfb (a:=l) (b:=[]) zg0 Z Z Z<|a1 ?_
  refine zaI 14 (E':=[(39,.bool (decide ((l=[])∨((¬ (((l.getD 0 0).toNat:Int)=9∨((l.getD 0 0).toNat:Int)=32))∧(¬ (((l.getD (Int.toNat ((l.length:Int) - 1)) 0).toNat:Int)=9∨((l.getD (Int.toNat ((l.length:Int) - 1)) 0).toNat:Int)=32))))))]) (fun J => ?_) ?_
  ·refine zaG (t:=25) Z ?_ ?_
   ·intro hs25
    try dsimp only at hs25
    refine a5 ?_
    refine zaD Z Z Z Z Z<|zaD Z Z Z Z Z<|zaD Z Z Z Z Z<|zaD Z Z Z Z Z<|zaD Z Z Z Z Z<|zaD Z Z Z Z Z ?_
    refine zaD Z Z Z Z Z<|a2 ?_
    exact J _ zej
   ·intro hs25
    try dsimp only at hs25
    have hpos:=zE3.2 hs25
    refine a1 ?_
    refine zbD (l:=l) 0 Z kQ Z (.inr ⟨_,_,_,Z,Z,Z,Z⟩) Z Z Z<|zca Z (zpJ (l.getD 0 0)) ?_
    rintro _ _ ⟨rfl,rfl⟩
    refine a2 ?_
    refine zaI 8 (E':=[(38,.bool (decide ((¬ (((l.getD 0 0).toNat:Int)=9∨((l.getD 0 0).toNat:Int)=32))∧(¬ (((l.getD (Int.toNat ((l.length:Int) - 1)) 0).toNat:Int)=9∨((l.getD (Int.toNat ((l.length:Int) - 1)) 0).toNat:Int)=32))))),(25,.bool false)]) (fun J => ?_) ?_
    ·refine zaK (t:=30) Z ?_ ?_
     ·intro hs30
      have hs30:¬ (((l.getD 0 0).toNat:Int)=9∨((l.getD 0 0).toNat:Int)=32):=zDm (zat hs30)
      refine a2 ?_
      refine zbu (l:=l) Z (.inr ⟨_,_,_,Z,Z,Z,Z⟩) Z Z<|a1 ?_
      refine zbD (l:=l) (Int.toNat ((l.length:Int) - 1)) kQ kQ Z (.inr ⟨_,_,_,Z,Z,Z,Z⟩) Z Z Z<|zca Z (zpJ (l.getD (Int.toNat ((l.length:Int) - 1)) 0)) ?_
      rintro _ _ ⟨rfl,rfl⟩
      refine a2 ?_
      exact J _ zej
     ·intro hs30
      have hs30:((l.getD 0 0).toNat:Int)=9∨((l.getD 0 0).toNat:Int)=32:=zDf (zas hs30)
      refine a8 ?_
      exact J _ zej
    ·refine a1 ?_
     exact J _ zej
  ·refine a2 ?_
   refine zpk [] 1 ?_
   exact zad Tryz.func462 Z Z (⟨zDh Value.bool (by rw [zrc l (zoa kQ ha)]),Z⟩)
def letA (l:yB):List Bool:=(List.range 256).map fun i => l.contains (UInt8.ofNat i)
theorem zd5 (l:yB):(letA l).length=256:=by simp [letA]
theorem zwe:List.replicate 256 false=letA []:=by
 apply zFf (by rw [zd5,zEe])
 intro i h1 h2
 rw [List.getElem_replicate]
 simp only [letA,List.getElem_map]
 rfl
theorem zpe (l:yB) (c:UInt8):(letA l).getD c.toNat false=l.contains c:=by
 have h:=c.toNat_lt
 simp [letA,List.getD,h,zF0]
theorem zwd (l:yB) (c:UInt8):(letA l).set c.toNat true=letA (l++[c]):=by
 apply zFf (by simp [letA])
 intro i h1 h2
 have hi:i < 256:=by simpa [letA] using h2
 rw [zF4]
 by_cases h:c.toNat=i
 ·subst h
  simp [letA,zF0]
 ·have hne:¬ (UInt8.ofNat i=c):=by
   intro h3; apply h; rw [← h3,zE0 hi]
  simp [letA,h,hne]
theorem zqz (hl:l.length≤140737488355000) :
  SCalls Tryz.prog 495 [str l] w0 base (H) (fun v H' => v = .agg (tyBool.cells (letA l)).toArray∧H' = H):=by
 refine zaa (n:=16) Tryz.func495 Z Z Z fun cs => ?_
 refine a2 ?_
 refine zib tyBool (l:=List.replicate 256 false) zjX zj1 kY zg0 Z ?_
 intro b1 s2 o3
 rw [zEe] at o3
 refine a5 ?_
 refine zcF (l:=l) Z Z Z (by first | omega | (simp only [zC6,zC7,zC8]; omega) | (simp; done) | (simp; omega)) zg0 Z Z ?_
 intro A4 C5 s6 n8 o7
 refine a4 ?_
 refine zcC (fun (k:Nat) (s2:Seg) => [(2,pB b1),(6,.slice A4 l.length C5),(7,vV (l.length:Int)),(8,vV (k:Int))]) (fun k s2 => s6::s2::H) (fun k s2 => k≤l.length∧Own tyBool 488 (some ⟨b1,0,none⟩) 256 (letA (l.take k)) s2) (fun k s2 => l.length - k) 0 s2 (⟨zDq _,by rw [zFr,← zwe]; exact o3⟩) ⟨Z,Z,Z,Z,trivial⟩ Z ?_
 rintro k s2 ⟨hk,ho⟩ ihL1
 have hlen:=zd5 (l.take k)
 have hlt:=(l.getD k 0).toNat_lt
 have hle:=Own.le_cap ho
 refine a5 ?_
 refine zac Z ?_ ?_
 ·intro hc1
  try dsimp only at hc1
  refine a5 ?_
  refine zah k (o7.rd (i:=0) Z) Z zaF zg0 Z Z Z Z kQ ?_
  refine zax (v:=.int .u8 ((l.getD k 0).toNat:Int)) zcP zg0 Z Z (zaL (o7.rd (i:=0) Z) (getD_some 0 kQ) Z)<|a4 ?_
  refine zfT ((l.getD k 0).toNat) Z zrp zg0 Z Z Z Z kQ ?_
  refine zkJ (u:=true) 1 ((l.getD k 0).toNat) zrp Z ho kQ zg0 Z Z ?_
  intro s9 o10
  refine a6 ?_
  refine ihL1 (k + 1) s9 (⟨by omega,by rw [ziH l k kQ,← zwd]; exact o10⟩) kQ _ ?_
  exact zen
 ·intro hc1
  try dsimp only at hc1
  refine a3 ?_
  refine zoq (ho.rd (i:=1) Z) zlW (by simp [zaC,tyBool,zd5]) zg0 Z Z ?_
  refine zhZ (T:=tyBool) (l':=letA (l.take k)) 1 zoB Z ho Z Z (by simp [zaC,tyBool,zd5]) zg0 Z Z ?_
  intro s11 o12
  refine a1 ?_
  exact zaE (vs:=[.agg (tyBool.cells (letA (l.take k))).toArray]) [] 2 Z Z Tryz.func495 Z ⟨⟨_,Z,LoadsTo.arr (o12.rd (i:=1) Z) zlW (by simp [zaC,tyBool,zd5])⟩,trivial⟩ (⟨by rw [zDc (show l.length≤k by omega)]; rfl,Z⟩)
theorem zyA {most:Int}(hk:k < s.length) (h:(letA LET).getD (s.getD k 0).toNat false=false):zcD s most=false:=by
 rw [zpe,← zsR] at h
 rw [zcD,zob hk h,zFc]
theorem zu7 {most:Int}(h:s.all zhn=true):zcD s most=decide (¬ s=[]∧(s.length:Int)≤most):=by
 rw [zcD,h,zFV]
 apply zEM.2
 have:=zE3 (l:=s)
 constructor
 ·rintro ⟨h1,h2⟩; exact ⟨this.1 kQ,h2⟩
 ·rintro ⟨h1,h2⟩; exact ⟨this.2 h1,h2⟩
theorem zq9 (hl:l.length≤140737488355000) (most:Int) :
  SCalls Tryz.prog 460 [str l,vV most] w0 base (H) (fun v H' => v = .bool (zcD l most)∧H' = H):=by
 refine zaa (n:=29) Tryz.func460 Z Z Z fun cs => ?_
 refine a6 ?_
 refine zca Z (zqz (l:=LET) kE) ?_
 rintro _ _ ⟨rfl,hHq⟩
 obtain rfl:=hHq.symm
 refine zib tyBool (l:=List.replicate 256 false) zjX zj1 kY zg0 Z ?_
 intro b1 s2 o3
 rw [zEe] at o3
 refine zhZ (T:=tyBool) (l':=letA LET) 0 zoB Z o3 (by simp [zd5]) Z (by simp [zaC,tyBool,zd5]) zg0 Z Z ?_
 intro s4 o5
 refine a5 ?_
 refine zcF (l:=l) Z Z Z (by first | omega | (simp only [zC6,zC7,zC8]; omega) | (simp; done) | (simp; omega)) zg0 Z Z ?_
 intro A6 C7 s8 n10 o9
 refine a4 ?_
 refine zbM (fun (k:Nat) => [(0,str l),(1,vV most),(5,pB b1),(10,.slice A6 l.length C7),(11,vV (l.length:Int)),(12,vV (k:Int))]) (fun k => s8::s4::H) (fun k => k≤l.length∧(l.take k).all zhn=true) (fun k => l.length - k) 0 (⟨zDq _,Z⟩) ⟨Z,Z,Z,Z,Z,Z,trivial⟩ Z ?_
 rintro k ⟨hk,ha⟩ ihL1
 have hlt:=(l.getD k 0).toNat_lt
 have hlen:=zd5 LET
 refine a5 ?_
 refine zac Z ?_ ?_
 ·intro hc1
  try dsimp only at hc1
  refine a5 ?_
  refine zah k (o9.rd (i:=0) Z) Z zaF zg0 Z Z Z Z kQ ?_
  refine zax (v:=.int .u8 ((l.getD k 0).toNat:Int)) zcP zg0 Z Z (zaL (o9.rd (i:=0) Z) (getD_some 0 kQ) Z)<|a5 ?_
  refine zfT ((l.getD k 0).toNat) Z zrp zg0 Z Z Z Z kQ<|zax (v:=.bool ((letA LET).getD ((l.getD k 0).toNat) false)) zeQ zg0 Z Z (zaL (o5.rd (i:=1) Z) (getD_some false (show (l.getD k 0).toNat < (letA LET).length by omega)) Z)<|a2 ?_
  refine zaT Z ?_ ?_
  ·intro hc2
   have hc2:((letA LET).getD ((l.getD k 0).toNat) false)=false:=zat hc2
   refine a4 ?_
   refine zpk [] 2 ?_
   exact zad Tryz.func460 Z Z (⟨zDh Value.bool (by rw [zyA (k:=k) kQ (by simpa using hc2)]),Z⟩)
  ·intro hc2
   have hc2:((letA LET).getD ((l.getD k 0).toNat) false)=true:=zas hc2
   refine a6 ?_
   refine ihL1 (k + 1) (⟨by omega,zly kQ ha (by rw [zsR,← zpe]; simpa using hc2)⟩) kQ _ ?_
   exact zen
 ·intro hc1
  try dsimp only at hc1
  refine a4 ?_
  refine zjy (a:=l) (b:=[]) zg0 Z Z Z<|a1 ?_
  refine zaI 5 (E':=[(28,.bool (decide ((¬ (l=[]))∧((l.length:Int)≤most))))]) (fun J => ?_) ?_
  ·refine zaK (t:=23) Z ?_ ?_
   ·intro hs23
    have hs23:¬ (l=[]):=zDm (zat hs23)
    refine a1 ?_
    refine zbu (l:=l) Z (.inr ⟨_,_,_,Z,Z,Z,Z⟩) Z Z<|a3 ?_
    exact J _ zej
   ·intro hs23
    have hs23:l=[]:=zDf (zas hs23)
    refine a5 ?_
    exact J _ zej
  ·refine a2 ?_
   refine zpk [] 2 ?_
   exact zad Tryz.func460 Z Z (⟨zDh Value.bool (by rw [zu7 (zoa kQ ha)]),Z⟩)
end Go.Proofs.YtjmnjkoekabioaaGreatDoor
