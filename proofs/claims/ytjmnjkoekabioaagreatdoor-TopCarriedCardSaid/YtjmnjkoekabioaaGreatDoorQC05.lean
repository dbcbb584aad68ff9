/- Parts of the proof. -/
import Derived.Test.YtjmnjkoekabioaaGreatDoorQC04
namespace Go.Proofs.YtjmnjkoekabioaaGreatDoor
set_option maxHeartbeats 4000000
set_option linter.unusedVariables false
set_option linter.unusedSimpArgs false
open Go.RowKit (Below)
set_option linter.unusedSectionVars false
set_option maxRecDepth 100000
variable {ok:Bool}{n1 n2 n3 u:Int}{ls r:List yB}{F T T0 T2 V:List (yB×Int×Nat)}{H:List Seg}{b body l m s0 s4:yB}{C Cq base k mb mn n nx p pb rb tb:Nat}{x y:Operand}{A Aq:Option Addr}{P:Program}{R:RespV}{s s2:Seg}{β κ:Type}{dd:TypeDesc}{et kt t:TypeId}{c:UInt8}{z:Value}{w w0:World}
theorem ztU (n:Nat):(decF n).any crlf=false:=by
 induction n using Nat.strongRecOn with
 | _ n ih =>
  have key:∀ k:Fin 10,crlf (UInt8.ofNat (48 + k.val))=false:=by decide
  rw [decF]
  split
  ·rename_i h; simpa using key ⟨n,h⟩
  ·rw [zEG,ih (n / 10) kQ]
   simpa using key ⟨n % 10,by omega⟩
theorem zr5 (s:Int):(zbn s).any crlf=false:=by
 have key:∀ l:List (Int×yB),(∀ p ∈ l,p.2.any crlf=false)→((atK s l).getD []).any crlf=false:=by
  intro l
  induction l with
  | nil => intro _; rfl
  | cons p r ih =>
   grind [atK]
 exact key REASONS kE
def zbT (s:yB):Int:=match Lib.atoiAll s with | .ok v => v | .range => Lib.atoiSat s | _ => 0
def zdX (s:yB):Bool:=match Lib.atoiAll s with | .ok _ => true | _ => false
theorem zpM (n:Nat) (h:n≤1073741824):zbT (decF n)=(n:Int)∧zdX (decF n)=true:=by
 have h1:=zrT (zvy n h)
 have h2:=zg2 n h
 have h3:Lib.atoiAll (decF n) = .ok (n:Int):=by rw [Lib.atoiAll_short _ kQ,h1]; rfl
 grind [zbT,zdX]
theorem zhs (sub rest:yB) (h:l.any (fun x => x == c)=false):Lib.index (l++rest) (c::sub)=if Lib.index rest (c::sub) = -1 then -1 else Lib.index rest (c::sub) + (l.length:Int):=by
 have hg:=Lib.index_ge rest (c::sub)
 induction l with
 | nil => grind
 | cons a l ih =>
  have h1:¬ a=c:=by grind
  have h2:l.any (fun x => x == c)=false:=by grind
  have hp:List.isPrefixOf (c::sub) (a::(l++rest))=false:=by
   grind
  rw [zDr,Lib.index,hp,ih h2]
  grind
theorem zeI (sub rest:yB) (h:l.any (fun x => x == c)=false):Lib.index (l++c::(sub++rest)) (c::sub)=(l.length:Int):=by
 simp_all [Lib.index,zDi,List.isPrefixOf_iff_prefix,zhs]
theorem zwo (sub:yB) (h:l.any (fun x => x == c)=false):Lib.index l (c::sub) = -1:=by
 have:=zhs sub [] h
 grind [Lib.index]
theorem zt1 (h:l.any crlf=false):l.any (fun x => x == 13)=false:=by
 rw [zFx] at h ⊢
 intro x hx h2
 apply h x hx
 rw [eq_of_beq h2]; rfl
theorem ztW {n v sub:yB}(h:n.any (fun x => x == c)=false):Lib.cut (n++c::(sub++v)) (c::sub)=(n,v,true):=by
 simp_all [Lib.cut,zeI,zDi]
def zeJ:List yB→yB
 | [] => []
 | l::ls => l++13::10::zeJ ls
def zcE:yB→List yB→yB
 | l,[] => l
 | l,m::ls => l++13::10::zcE m ls
theorem zzP (l:yB) (ls:List yB):zeJ (l::ls)=zcE l ls++[13,10]:=by
 induction ls generalizing l with
 | nil => rfl
 | cons m ls ih => grind [zeJ,zcE]
theorem zsZ (a b:List yB):zeJ (a++b)=zeJ a++zeJ b:=by
 induction a with
 | nil => rfl
 | cons l a ih => grind [zeJ]
theorem zqE (a:UInt8) (l:yB) (ls:List yB):∃ r,zcE (a::l) ls=a::r:=by
 cases ls with
 | nil => exact ⟨_,rfl⟩
 | cons m ls => exact ⟨_,rfl⟩
theorem zs5 (l:yB) (ls:List yB) (t:yB) (h:∀ x ∈ l::ls,x≠[]∧x.any crlf=false):Lib.index (zcE l ls++([13,10,13,10]++t)) [13,10,13,10]=((zcE l ls).length:Int):=by
 induction ls generalizing l with
 | nil => exact zeI [10,13,10] t (zt1 (h l kY).2)
 | cons m ls ih =>
  have hm:=h m kY
  have hi:=ih m fun x hx => h x (by grind)
  cases m with
  | nil => grind
  | cons a m =>
   have ha:¬ a=13:=by grind [crlf]
   obtain ⟨r,hr⟩:=zqE a m ls
   rw [hr,zDr] at hi
   rw [zcE,zDg,zhs _ _ (zt1 (h l kY).2),zDr,zDr,hr,zDr]
   have p1:List.isPrefixOf [13,10,13,10] (13::10::a::(r++([13,10,13,10]++t)))=false:=by
    grind
   have p2:List.isPrefixOf [13,10,13,10] (10::a::(r++([13,10,13,10]++t)))=false:=by
    grind
   have e2:Lib.index (10::a::(r++([13,10,13,10]++t))) [13,10,13,10]=((a::r).length:Int) + 1:=by
    rw [Lib.index,p2,hi,zDb kY,zDb (by grind)]
   have e1:Lib.index (13::10::a::(r++([13,10,13,10]++t))) [13,10,13,10]=((a::r).length:Int) + 1 + 1:=by
    rw [Lib.index,p1,e2,zDb kY,zDb (by grind)]
   grind
theorem znq (l:yB) (ls:List yB) (h:∀ x ∈ l::ls,x.any crlf=false):Lib.splitK [13,10] 0 ls.length (zcE l ls)=l::ls:=by
 induction ls generalizing l with
 | nil => rfl
 | cons m ls ih =>
  have hi:Lib.index (zcE l (m::ls)) [13,10]=(l.length:Int):=zeI [10] (zcE m ls) (zt1 (h l kY))
  rw [zC7,Lib.splitK,hi,zDb (by grind)]
  have e1:(zcE l (m::ls)).take (((l.length:Int)).toNat + 0)=l:=by rw [zcE]; simp
  have e2:(zcE l (m::ls)).drop (((l.length:Int)).toNat + ([13,10]:yB).length)=zcE m ls:=by rw [zcE]; simp
  grind
theorem zqS (n:Nat) (l:yB) (ls:List yB) (h:∀ x ∈ l::ls,x.any crlf=false) (hn:(zcE l ls).length < n):Lib.countFrom [13,10] n (zcE l ls)=ls.length:=by
 induction ls generalizing l n with
 | nil =>
  cases n with
  | zero => omega
  | succ n => grind [zcE,Lib.countFrom,zwo,zt1]
 | cons m ls ih =>
  cases n with
  | zero => omega
  | succ n =>
   have hi:Lib.index (zcE l (m::ls)) [13,10]=(l.length:Int):=zeI [10] (zcE m ls) (zt1 (h l kY))
   have e2:(zcE l (m::ls)).drop (((l.length:Int)).toNat + ([13,10]:yB).length)=zcE m ls:=by rw [zcE]; simp
   rw [Lib.countFrom,hi,zDb (by grind),e2,ih n m (fun x hx => h x (by grind)) (by rw [zcE] at hn; grind)]
   grind
theorem zqg (l:yB) (ls:List yB) (h:∀ x ∈ l::ls,x.any crlf=false):Lib.split (zcE l ls) [13,10]=l::ls:=by
 grind [Lib.split,Lib.count,zqS,znq]
def CNM:yB:=[67,111,110,110,101,99,116,105,111,110]
def stL (st:Int):yB:=H11++(decF st.toNat++([32]++zbn st))
def fldL (f:Fld):yB:=f.1++([58,32]++f.2)
def lenL (n:Nat):yB:=CLN++decF n
def zlZ (keep:Bool):List yB:=if keep then [] else [CCL]
def zgI (r:RespV):List yB:=r.fs.map fldL++(lenL r.body.length::zlZ r.keep)
theorem znY (fs:List Fld):zeJ (fs.map fldL)=zcf fs:=by
 induction fs with
 | nil => rfl
 | cons f fs ih => grind [zeJ,zcf,fldL]
theorem zqF (r:RespV):zqG r=zeJ (stL r.st::zgI r)++[13,10]:=by
 rw [zeJ,zgI,zsZ,znY,zeJ]
 cases hk:r.keep <;> simp [zqG,stB,stL,zdo,lenL,endB,zlZ,zeJ,hk]
theorem zql (r:RespV) (t:yB):zei r++t=zcE (stL r.st) (zgI r)++([13,10,13,10]++(r.body++t)):=by
 rw [zei,zqF,zzP]; simp
theorem zx6 {r:RespV}(h:okR r=true):zbn r.st≠[]∧200≤r.st∧r.st≤505∧r.body.length≤65535∧r.fs.all fldR=true:=by
 simp_all [okR,zC9,zD7,zkf]
theorem ztn {f:Fld}(h:fldR f=true):f.1≠[]∧f.1.any crlf=false∧f.1.any (fun x => x == 58)=false∧f.2.any crlf=false∧f.1≠CL1∧f.1≠CNM:=by
 simp only [fldR,zbt,zC9] at h
 obtain ⟨⟨hw,hv⟩,ho⟩:=h
 obtain ⟨w1,w2,w3,w4⟩:=zyB hw
 have ho2:ownF f=false:=by grind
 have hn:=zDm ho2
 refine ⟨w1,w2,w4,(zvb hv).1,fun e => hn (.inl ?_),fun e => hn (.inr (.inl ?_))⟩
 ·rw [e]; decide +kernel
 ·rw [e]; decide +kernel
theorem zzZ {f:Fld}(h:fldR f=true):fldL f≠[]∧(fldL f).any crlf=false:=by
 obtain ⟨h1,h2,_,h4,_⟩:=ztn h
 refine ⟨by simp [fldL],?_⟩
 rw [fldL,zEG,zEG,h2,h4]; decide
theorem zBt (st:Int):stL st≠[]∧(stL st).any crlf=false:=by
 refine ⟨by simp [stL,H11],?_⟩
 rw [stL,zEG,zEG,zEG,ztU,zr5]; decide
theorem zzG (n:Nat):lenL n≠[]∧(lenL n).any crlf=false:=by
 refine ⟨by simp [lenL,CLN],?_⟩
 rw [lenL,zEG,ztU]; decide
theorem zvp {k:Bool}{x:yB}(h:x ∈ zlZ k):x=CCL:=by
 cases k <;> simp [zlZ] at h; exact h
theorem zyX {r:RespV}(h:okR r=true):∀ x ∈ stL r.st::zgI r,x≠[]∧x.any crlf=false:=by
 obtain ⟨_,_,_,_,h4⟩:=zx6 h
 intro x hx
 simp only [zgI,zDp,zDt,zDC] at hx
 rcases hx with rfl | ⟨f,hf,rfl⟩ | rfl | hx
 ·exact zBt _
 ·grind [zzZ,List.all_eq_true]
 ·exact zzG _
 ·rw [zvp hx]; decide
def zdj (ok:Bool) (st:Int) (body:yB):List Fld→List yB→Option RespV
 | _,[] => none
 | fs,x::xs =>
  if (Lib.cut x [58,32]).1≠CL1 then zdj ok st body (fs++[((Lib.cut x [58,32]).1,(Lib.cut x [58,32]).2.1)]) xs
  else if (((((Lib.cut x [58,32]).2.2=false∨ok=false)∨zdX (Lib.cut x [58,32]).2.1=false)∨zbT (Lib.cut x [58,32]).2.1 < 0)∨(body.length:Int) < zbT (Lib.cut x [58,32]).2.1) then none
  else some ⟨st,fs,body.take (zbT (Lib.cut x [58,32]).2.1).toNat,decide (xs=[])⟩
def zbc (b:yB):Option RespV :=
 if Lib.index b [13,10,13,10] < 0 then none
 else if (Lib.splitN ((Lib.split (b.take (Lib.index b [13,10,13,10]).toNat) [13,10]).getD 0 []) [32] 3).length < 2 then none
 else zdj (zdX ((Lib.splitN ((Lib.split (b.take (Lib.index b [13,10,13,10]).toNat) [13,10]).getD 0 []) [32] 3).getD 1 [])) (zbT ((Lib.splitN ((Lib.split (b.take (Lib.index b [13,10,13,10]).toNat) [13,10]).getD 0 []) [32] 3).getD 1 []))
  (b.drop ((Lib.index b [13,10,13,10]).toNat + 4)) [] ((Lib.split (b.take (Lib.index b [13,10,13,10]).toNat) [13,10]).drop 1)
theorem zlm (ok:Bool) (st:Int) (body:yB) (xs:List yB) (fs acc:List Fld) (h:fs.all fldR=true):zdj ok st body acc (fs.map fldL++xs)=zdj ok st body (acc++fs) xs:=by
 induction fs generalizing acc with
 | nil => simp
 | cons f fs ih =>
  simp only [zFj,zC9] at h
  obtain ⟨_,_,h3,_,h5,_⟩:=ztn h.1
  have hc:Lib.cut (fldL f) [58,32]=(f.1,f.2,true):=ztW (sub:=[32]) h3
  simp_all [zDo,zDr,zdj,zDi]
theorem zAq (n:Nat):Lib.cut (lenL n) [58,32]=(CL1,decF n,true):=by
 have h:CL1.any (fun x => x == 58)=false:=by decide
 have e:lenL n=CL1++58::([32]++decF n):=by simp [lenL,CLN,CL1]
 grind [ztW]
theorem zqy (st:Int) (b t:yB) (fs:List Fld) (keep:Bool) (h:b.length≤65535):zdj true st (b++t) fs (lenL b.length::zlZ keep)=some ⟨st,fs,b,keep⟩:=by
 obtain ⟨h1,h2⟩:=zpM b.length kQ
 have e:decide (zlZ keep=[])=keep:=by cases keep <;> simp [zlZ]
 rw [zdj,zAq,zDb kY,zDb,h1,e]
 ·simp
 grind
theorem zAp (n:Nat):(decF n).any (fun x => x == 32)=false:=by
 induction n using Nat.strongRecOn with
 | _ n ih =>
  have key:∀ k:Fin 10,(UInt8.ofNat (48 + k.val) == 32)=false:=by decide
  rw [decF]
  split
  ·rename_i h; simpa using key ⟨n,h⟩
  ·rw [zEG,ih (n / 10) kQ]
   simpa using key ⟨n % 10,by omega⟩
theorem zu6 (st:Int):(Lib.splitN (stL st) [32] 3).length=3∧(Lib.splitN (stL st) [32] 3).getD 1 []=decF st.toNat:=by
 have hl:9≤(stL st).length:=by grind [stL,H11,List.length_append,List.length_cons,List.length_nil]
 have e0:min 3 ((stL st).length + 1) - 1=2:=by omega
 have e1:stL st=[72,84,84,80,47,49,46,49]++32::([]++(decF st.toNat++32::([]++zbn st))):=by simp [stL,H11]
 have i1:Lib.index (stL st) [32]=8:=by rw [e1]; exact zeI [] _ kE
 have d1:(stL st).drop ((8:Int).toNat + ([32]:yB).length)=decF st.toNat++32::([]++zbn st):=by simp_all
 have i2:Lib.index (decF st.toNat++32::([]++zbn st)) [32]=((decF st.toNat).length:Int):=zeI [] _ (zAp _)
 have t2:(decF st.toNat++32::([]++zbn st)).take (((decF st.toNat).length:Int).toNat + 0)=decF st.toNat:=by simp
 have e:Lib.splitN (stL st) [32] 3=[(stL st).take ((8:Int).toNat + 0),decF st.toNat,(decF st.toNat++32::([]++zbn st)).drop (((decF st.toNat).length:Int).toNat + ([32]:yB).length)]:=by
  simp_all [Lib.splitN,Lib.splitK,zDb,zGs]
 simp_all
theorem ziN {r:RespV}(h:okR r=true) (t:yB):zbc (zei r++t)=some r:=by
 obtain ⟨h1,h2,h3,h4,h5⟩:=zx6 h
 have hr:=zyX h
 have hi:=zs5 (stL r.st) (zgI r) (r.body++t) hr
 have e1:(zcE (stL r.st) (zgI r)++([13,10,13,10]++(r.body++t))).take (((zcE (stL r.st) (zgI r)).length:Int)).toNat=zcE (stL r.st) (zgI r):=by simp
 have e2:(zcE (stL r.st) (zgI r)++([13,10,13,10]++(r.body++t))).drop ((((zcE (stL r.st) (zgI r)).length:Int)).toNat + 4)=r.body++t:=by
  simp_all
 have e3:=zqg (stL r.st) (zgI r) fun x hx => (hr x hx).2
 obtain ⟨w1,w2⟩:=zu6 r.st
 obtain ⟨a1,a2⟩:=zpM r.st.toNat kQ
 rw [zql,zbc,hi,e1,e2,e3,zDb kQ]
 have e4:((stL r.st::zgI r).getD 0 [])=stL r.st:=rfl
 rw [e4,w1,w2,a1,a2,zDb kQ]
 have e5:(stL r.st::zgI r).drop 1=r.fs.map fldL++(lenL r.body.length::zlZ r.keep):=rfl
 rw [e5,zlm _ _ _ _ _ _ h5,zDG,show ((r.st.toNat:Nat):Int)=r.st by omega]
 simp_all [zqy]
def zhi (b:yB) (at_:Int):RespV×Int×Int :=
 if at_ < 0∨(b.length:Int) < at_ then (.zero,0,5)
 else match zbc (b.drop at_.toNat) with
  | none => (.zero,0,4)
  | some r => if okR r=true∧zei r <+: b.drop at_.toNat then (r,at_ + ((zei r).length:Int),0) else (.zero,0,4)
theorem zkh {at_:Int}(h:at_ < 0∨(b.length:Int) < at_):zhi b at_=(.zero,0,5):=by rw [zhi,zDi h]
theorem zy2 {at_:Int}(h:¬ (at_ < 0∨(b.length:Int) < at_)) (h2:∀ r,okR r=true→¬ zei r <+: b.drop at_.toNat):zhi b at_=(.zero,0,4):=by
 rw [zhi,zDb h]
 grind
theorem zoT {at_:Int}{r:RespV}(h:¬ (at_ < 0∨(b.length:Int) < at_)) (h1:okR r=true) (h2:zei r <+: b.drop at_.toNat):zhi b at_=(r,at_ + ((zei r).length:Int),0):=by
 obtain ⟨t,ht⟩:=h2
 have:=ziN h1 t
 rw [ht] at this
 rw [zhi,zDb h,this]
 grind
structure ErrTab (w0:World) (base:Nat):Prop where
  lt1:3 < base
  lt2:4 < base
  syn:∃ ev:Value,w0.cell? ⟨3,0,none⟩=some ev∧(ev = .nilIface∨∃ te pe,ev = .iface te pe)
  rng:∃ ev:Value,w0.cell? ⟨4,0,none⟩=some ev∧(ev = .nilIface∨∃ te pe,ev = .iface te pe)
theorem zpN {s:yB}(hs:s.length≤281474976710656) (E:ErrTab w0 base) :
  SCalls Tryz.prog 108 [str s] w0 base H (fun v H' => (∃ te a,v = .tuple #[int (zbT s),errV te a (zdX s)])∧H' = H):=by
 refine zff fun w S => ?_
 cases h:Lib.atoiAll s
 ·rename_i n
  refine (Tryz.strconv_Atoi_ok ⟨⟨s⟩⟩ (by grind [zba]) n h w).mono ?_
  rintro e w' ⟨rfl,hw⟩
  refine ⟨_,Z,⟨0,none,by grind [zbT,zdX,errV]⟩,?_⟩
  rcases hw with rfl | ⟨t,rfl⟩
  ·exact Go.RowKit.Below.refl _ _
  grind [Lib.bytesWorld_below]
 ·obtain ⟨ev,hv,hev⟩:=E.syn
  refine (Any.strconv_Atoi_syntax Tryz.laysC172 ⟨⟨s⟩⟩ (by grind [zba]) h ev w (S.cellBelow E.lt1 hv) hev).mono ?_
  rintro e w' ⟨N,rfl,_,_,hb⟩
  exact ⟨_,Z,⟨_,some ⟨N,0,none⟩,by simp only [zbT,zdX,h,errV]; rfl⟩,hb⟩
 ·obtain ⟨ev,hv,hev⟩:=E.rng
  refine (Any.strconv_Atoi_range Tryz.laysC172 ⟨⟨s⟩⟩ (by grind [zba]) h ev w (S.cellBelow E.lt2 hv) hev).mono ?_
  rintro e w' ⟨N,rfl,_,_,hb⟩
  exact ⟨_,Z,⟨_,some ⟨N,0,none⟩,by simp only [zbT,zdX,h,errV]; rfl⟩,hb⟩
theorem zv2 {α:Type}(T:Ty α) (e:TypeId) (b:Nat) (l r:List α) (n:Nat) (cs:List Value) (hcs:cs=T.cells (l++r)) (hn:n=l.length + r.length) (hle:l.length + r.length≤9223372036854775807) :
  ∃ s,s=[(b,Obj.cells cs.toArray e (0,0))]∧Own T e (some ⟨b,0,none⟩) n l s:=by
 subst hcs; subst hn
 exact ⟨_,rfl,r,rfl,.inr ⟨b,[],[],(0,0),by simp,by simp,zaY _,hle⟩⟩
theorem zmT (l:List yB):tyS.cells l=l.map str:=by simp [Ty.cells,tyS,str,Value.cells,List.flatMap_singleton',List.map_eq_flatMap]
theorem ztY (sep:yB) (n:Nat) (s:yB):Lib.countFrom sep n s≤n:=by
 induction n generalizing s with
 | zero => simp [Lib.countFrom]
 | succ n ih =>
  rw [Lib.countFrom]
  grind
theorem ziJ (sep:yB) (k:Nat) (s:yB):∀ x ∈ Lib.splitK sep 0 k s,x.length≤s.length:=by
 induction k generalizing s with
 | zero => simp_all [Lib.splitK,zDe]
 | succ k ih =>
  intro x hx
  rw [Lib.splitK] at hx
  grind
theorem zka {x:yB}(sep:yB) (h1:1≤sep.length):(Lib.split x sep).length=Lib.countB ⟨⟨x⟩⟩ ⟨⟨sep⟩⟩ + 1∧(Lib.split x sep).length≤x.length + 2:=by
 have hb:(Lib.splitB ⟨⟨sep⟩⟩ 0 (Lib.countB ⟨⟨x⟩⟩ ⟨⟨sep⟩⟩) ⟨⟨x⟩⟩).map (fun b => b.data.toList)=Lib.split x sep:=by rw [Lib.splitB_data]; rfl
 have hl:(Lib.split x sep).length=Lib.countB ⟨⟨x⟩⟩ ⟨⟨sep⟩⟩ + 1:=by rw [← hb,zD4,Lib.splitB_all ⟨⟨sep⟩⟩ (by grind [zba]) 0 _ _ rfl]
 have hc:Lib.countB ⟨⟨x⟩⟩ ⟨⟨sep⟩⟩≤x.length + 1:=ztY sep (x.length + 1) x
 omega
theorem zrO {x:yB}(sep:yB) (h1:1≤sep.length) (hx:x.length < 4294967281) (T:Tabs w0 base) :
  SCalls Tryz.prog 106 [str x,str sep] w0 base H (fun v H' => ∃ y:Sl tyS 9,y.l=Lib.split x sep∧v = .slice y.A y.l.length y.C∧H' = y.s::H):=by
 obtain ⟨m,hm⟩:=T.max
 have hb:(Lib.splitB ⟨⟨sep⟩⟩ 0 (Lib.countB ⟨⟨x⟩⟩ ⟨⟨sep⟩⟩) ⟨⟨x⟩⟩).map (fun b => b.data.toList)=Lib.split x sep:=by rw [Lib.splitB_data]; rfl
 obtain ⟨hl,hle⟩:=zka (x:=x) sep h1
 have hcells:((Lib.splitB ⟨⟨sep⟩⟩ 0 (Lib.countB ⟨⟨x⟩⟩ ⟨⟨sep⟩⟩) ⟨⟨x⟩⟩).map Value.string).toArray=(tyS.cells (Lib.split x sep)).toArray:=by
  rw [← hb,zmT,zF8]; rfl
 have hc:=zfO (P:=Tryz.prog) (f:=106) (args:=[str x,str sep]) (w0:=w0) (base:=base) (H:=H) (v:=fun b => .slice (some ⟨b,0,none⟩) (Lib.split x sep).length (Lib.split x sep).length) (o:=.cells (tyS.cells (Lib.split x sep)).toArray 9) fun w S => by
  have:=Tryz.strings_Split ⟨⟨x⟩⟩ ⟨⟨sep⟩⟩ m w (by grind [zba]) (S.cellBelow T.lt0 hm) (by grind [zba])
  rw [hcells,← hl] at this
  exact this.mono fun e w' ⟨h1,h2⟩ => ⟨h1,0,h2⟩
 refine hc.mono ?_
 rintro v H' ⟨b,rfl,rfl⟩
 obtain ⟨s,hs,ho⟩:=znC tyS 9 b (Lib.split x sep) (Lib.split x sep).length _ rfl rfl kQ
 subst hs
 exact ⟨⟨_,_,_,_,ho⟩,Z,Z,Z⟩
theorem zrP {x:yB}(sep:yB) (h1:1≤sep.length) (hx:x.length < 4294967281) (T:Tabs w0 base) :
  SCalls Tryz.prog 107 [str x,str sep,int 3] w0 base H (fun v H' => ∃ y:Sl tyS 9,y.l=Lib.splitN x sep 3∧v = .slice y.A y.l.length y.C∧H' = y.s::H):=by
 obtain ⟨m,hm⟩:=T.max
 have hsz:(⟨⟨x⟩⟩:ByteArray).size=x.length:=zba x
 have hb:(Lib.splitB ⟨⟨sep⟩⟩ 0 (min 3 (x.length + 1) - 1) ⟨⟨x⟩⟩).map (fun b => b.data.toList)=Lib.splitN x sep 3:=by rw [Lib.splitB_data]; rfl
 have hl:(Lib.splitB ⟨⟨sep⟩⟩ 0 (min 3 (x.length + 1) - 1) ⟨⟨x⟩⟩).length=(Lib.splitN x sep 3).length:=by grind
 have hle:(Lib.splitN x sep 3).length≤min 3 (x.length + 1):=by
  grind [Lib.splitB_length_le,min]
 have hcells:Lib.cellsOf (Lib.splitB ⟨⟨sep⟩⟩ 0 (min 3 (x.length + 1) - 1) ⟨⟨x⟩⟩) (min 3 (x.length + 1))=(tyS.cells (Lib.splitN x sep 3++List.replicate (min 3 (x.length + 1) - (Lib.splitN x sep 3).length) [])).toArray:=by
  rw [Lib.cellsOf,hl,zmT,← hb,zDL,zF8,List.map_replicate]; rfl
 have hc:=zfO (P:=Tryz.prog) (f:=107) (args:=[str x,str sep,int 3]) (w0:=w0) (base:=base) (H:=H) (v:=fun b => .slice (some ⟨b,0,none⟩) (Lib.splitN x sep 3).length (min 3 (x.length + 1))) (o:=.cells (tyS.cells (Lib.splitN x sep 3++List.replicate (min 3 (x.length + 1) - (Lib.splitN x sep 3).length) [])).toArray 9) fun w S => by
  have:=Tryz.strings_SplitN ⟨⟨x⟩⟩ ⟨⟨sep⟩⟩ 3 m w kQ (S.cellBelow T.lt0 hm) (by grind [zba]) kQ kQ
  rw [hsz,hcells,hl] at this
  exact this.mono fun e w' ⟨h1,h2⟩ => ⟨h1,0,h2⟩
 refine hc.mono ?_
 rintro v H' ⟨b,rfl,rfl⟩
 obtain ⟨s,hs,ho⟩:=zv2 tyS 9 b (Lib.splitN x sep 3) (List.replicate (min 3 (x.length + 1) - (Lib.splitN x sep 3).length) []) (min 3 (x.length + 1)) _ rfl (by grind) (by grind)
 subst hs
 exact ⟨⟨_,_,_,_,ho⟩,Z,Z,Z⟩
theorem zAr {x:yB}(sep:yB) (hx:x.length < 4294967281) (T:Tabs w0 base) :
  SCalls Tryz.prog 109 [str x,str sep] w0 base H (fun v H' => v = .tuple #[str (Lib.cut x sep).1,str (Lib.cut x sep).2.1,.bool (Lib.cut x sep).2.2]∧H' = H):=by
 obtain ⟨m,hm⟩:=T.max
 refine zfM fun w S => ?_
 exact Tryz.strings_Cut ⟨⟨x⟩⟩ ⟨⟨sep⟩⟩ m w (by grind [zba]) (S.cellBelow T.lt0 hm)
theorem ztX (sep x:yB):(Lib.cut x sep).1.length≤x.length∧(Lib.cut x sep).2.1.length≤x.length:=by
 grind [Lib.cut]
theorem zul (h:Rd tyB w0 base H A C l) (hq:Rd tyB w0 base H Aq Cq m) :
  SCalls Tryz.prog 110 [.slice A l.length C,.slice Aq m.length Cq] w0 base (H) (fun v H' => v = .bool (decide (l=m))∧H' = H):=by
 have hle:=h.le
 have hcap:=h.cap
 have hle2:=hq.le
 have hcap2:=hq.cap
 refine zaa (n:=10) Tryz.func110 Z Z Z fun cs => ?_
 refine a7 ?_
 refine zcw h Z Z Z zg0 Z Z<|a1 ?_
 refine zcw hq Z Z Z zg0 Z Z<|zfb (a:=l) (b:=m) zg0 Z Z Z<|a2 ?_
 exact zad Tryz.func110 Z Z (⟨Z,Z⟩)
theorem Rd.isNone (h:Rd tyB w0 base H A C l) (hc:A.isNone=true):l=[]:=by
 cases A with
 | none => have h1:=h.nil rfl; have h2:=h.le; simp_all
 | some a => cases hc
theorem pref_iff :m <+: l↔((m.length:Int)≤(l.length:Int)∧subl l 0 m.length=m):=by
 rw [zbK,List.prefix_iff_eq_take]
 grind
theorem zlw (h:Rd tyB w0 base H A C l) (hq:Rd tyB w0 base H Aq Cq m) :
  SCalls Tryz.prog 47 [.slice A l.length C,.slice Aq m.length Cq] w0 base (H) (fun v H' => v = .bool (decide (m <+: l))∧H' = H):=by
 have hle:=h.le
 have hcap:=h.cap
 have hle2:=hq.le
 have hcap2:=hq.cap
 refine zaa (n:=18) Tryz.func47 Z Z Z fun cs => ?_
 refine a12 ?_
 refine zaI 7 (E':=[(17,.bool (decide (((m.length:Int)≤(l.length:Int))∧(subl l 0 m.length=m))))]) (fun J => ?_) ?_
 ·refine zaG (t:=10) Z ?_ ?_
  ·intro hs10
   try dsimp only at hs10
   refine a3 ?_
   have hleo3:=Rd.le h
   refine zbC 0 0 m.length C h Z (zab Z Z) Z (by intro h; cases h) kQ kQ kQ kQ Z zaF (.inr ⟨_,_,_,Z,Z,Z,Z⟩) Z Z ?_
   clear hleo3
   intro A1 C2 (o3:Rd tyB w0 base H A1 C2 (subl l 0 m.length))
   have hlo3:(subl l 0 m.length).length=m.length - 0:=zal kQ
   refine a1 ?_
   refine zca Z (zul (l:=subl l 0 m.length) (m:=m) o3 hq) ?_
   rintro _ _ ⟨rfl,hHq⟩
   obtain rfl:=hHq.symm
   refine a1 ?_
   exact J _ zej
  ·intro hs10
   try dsimp only at hs10
   refine a7 ?_
   exact J _ zej
 ·refine a2 ?_
  exact zad Tryz.func47 Z Z (⟨zDh Value.bool (zEM.2 pref_iff.symm),Z⟩)
theorem zum (h:Rd tyB w0 base H A C l) (hbl:l.length≤4294967280) :
  SCalls Tryz.prog 97 [.slice A l.length C] w0 base (H) (fun v H' => ∃ x:Sl tyB 5,x.l=l∧v = .slice x.A x.l.length x.C∧H' = x.s::H):=by
 have hle:=h.le
 have hcap:=h.cap
 refine zaa (n:=8) Tryz.func97 Z Z Z fun cs => ?_
 refine a8 ?_
 refine zcy Z zg0 Z Z Z<|a1 ?_
 refine zaT Z ?_ ?_
 ·intro hc1
  have hc1:A.isNone=true:=hc1
  refine a4 ?_
  refine At.nil ?_
  exact zad Tryz.func97 Z Z (⟨Sl.nil,(Rd.isNone h hc1).symm,Z,Z⟩)
 ·intro hc1
  have hc1:A.isNone=false:=hc1
  refine a3 ?_
  refine zae (cs:=[]) Z zbO zaF Z Z zg0 Z Z Z ?_
  intro b1
  refine zau tyB (l:=([]:yB)) Z Z kT ?_
  intro s2 o3
  refine a1 ?_
  refine zap (l:=[]) (news:=l) 0 zav Z o3 (Rd.skip 1 h) (by first | omega | (simp only [zC6,zC7,zC8]; omega) | (simp; done) | (simp; omega)) zg0 Z Z Z ?_
  intro A4 C5 s6 o7
  refine a2 ?_
  exact zad Tryz.func97 Z Z (⟨⟨A4,C5,l,s6,o7⟩,by simp,Z,Z⟩)
theorem zyG:ElemOk Tryz.prog 53 112 zbm (([],[]):yB×yB) 32:=ElemOk.of Tryz.underlying53 kW kW rfl
theorem zsP {st:Int}{acc:List Fld}{L:List yB}(h:k < L.length):zdj ok st body acc (L.drop k)=if (Lib.cut (L.getD k []) [58,32]).1≠CL1 then zdj ok st body (acc++[((Lib.cut (L.getD k []) [58,32]).1,(Lib.cut (L.getD k []) [58,32]).2.1)]) (L.drop (k + 1))
  else if (((((Lib.cut (L.getD k []) [58,32]).2.2=false∨ok=false)∨zdX (Lib.cut (L.getD k []) [58,32]).2.1=false)∨zbT (Lib.cut (L.getD k []) [58,32]).2.1 < 0)∨(body.length:Int) < zbT (Lib.cut (L.getD k []) [58,32]).2.1) then none
  else some ⟨st,acc,body.take (zbT (Lib.cut (L.getD k []) [58,32]).2.1).toNat,decide (L.drop (k + 1)=[])⟩:=by
 rw [zF2 h]
 have e:L[k]=L.getD k []:=by simp [List.getD,h]
 rw [e,zdj]
theorem zsO {st:Int}(L:List yB) (acc:List Fld) {r:RespV}(hL:∀ x ∈ L,x.length≤n) (ha:∀ f ∈ acc,f.1.length≤n∧f.2.length≤n) (h:zdj ok st body acc L=some r):(∀ f ∈ r.fs,f.1.length≤n∧f.2.length≤n)∧r.body.length≤body.length:=by
 induction L generalizing acc with
 | nil => rw [zdj] at h; cases h
 | cons x L ih =>
  have hx:=hL x kY
  have hc:=ztX [58,32] x
  rw [zdj] at h
  split at h
  ·refine ih _ (fun y hy => hL y (by simp [hy])) ?_ h
   intro f hf
   rcases zDt.1 hf with hf | hf
   ·exact ha f hf
   ·simp only [zDx] at hf; subst hf; exact ⟨by dsimp only; omega,by dsimp only; omega⟩
  ·split at h
   ·cases h
   ·cases h; exact ⟨ha,by rw [zDs]; omega⟩
theorem zrY {r:RespV}(h:zbc b=some r):(∀ f ∈ r.fs,f.1.length≤b.length∧f.2.length≤b.length)∧r.body.length≤b.length:=by
 unfold zbc at h
 split at h
 ·cases h
 ·split at h
  ·cases h
  ·have:=zsO _ _ (n:=b.length) (fun x hx => by
    have h1:=ziJ [13,10] _ _ x (zEU hx)
    rw [zDs] at h1; omega) (fun f hf => absurd hf kY) h
   rw [zDK] at this
   exact ⟨this.1,by omega⟩
theorem rp_le (h:R=(zbc b).getD RespV.zero):(∀ f ∈ R.fs,f.1.length≤b.length∧f.2.length≤b.length)∧R.body.length≤b.length:=by
 cases hp:zbc b with
 | none => rw [hp] at h; subst h; exact ⟨fun f hf => absurd hf (by simp [RespV.zero]),by simp [RespV.zero]⟩
 | some r => rw [hp] at h; subst h; exact zrY hp
theorem znu (h:Rd tyB w0 base H A C b) (hbl:b.length≤4294967280) (T:Tabs w0 base) (ET:ErrTab w0 base) :
  SCalls Tryz.prog 46 [.slice A b.length C] w0 base (H) (fun v H' => ∃ R:RespV,R=(zbc b).getD RespV.zero∧∃ (x:Sl zbm 112) (y:Sl tyB 5),x.l=R.fs∧y.l=R.body∧v = .tuple #[.agg #[int R.st,.slice x.A x.l.length x.C,.slice y.A y.l.length y.C,.bool R.keep],.bool (zbc b).isSome]∧H' = x.s::y.s::H):=by
 have hcap0:=h.cap
 have hle0:=h.le
 refine zaa (n:=115) Tryz.func46 Z Z Z fun cs => ?_
 refine a2 ?_
 refine AtL.alloc zfo (cs:=#[vV 0,.slice none 0 0,.slice none 0 0,.bool false]) Z zg0 Z ?_
 intro b1
 refine a5 ?_
 refine zae (cs:=[.int .u8 13,.int .u8 10,.int .u8 13,.int .u8 10]) Z zbO zaF Z Z zg0 Z Z Z ?_
 intro b2
 refine zor (l:=[13,10,13,10]) 0 Z Z Z Z Z kE zg0 Z Z ?_
 intro s3 o4
 refine zca Z (zs9 (l:=b) (l2:=[13,10,13,10]) (Rd.skip 2 h) (o4.rd (i:=0) Z) kQ kE T) ?_
 rintro _ _ ⟨rfl,rfl⟩
 refine a8 ?_
 refine zac Z ?_ ?_
 ·intro hc1
  try dsimp only at hc1
  refine a2 ?_
  refine zak (cs:=[vV 0,.slice none 0 0,.slice none 0 0,.bool false]) zd0 zg0 Z Z Z<|a3 ?_
  refine At.nil<|At.nil ?_
  have hp:zbc b=none:=by rw [zbc,zDi kQ]
  exact zaE (vs:=[.agg #[vV 0,.slice none 0 0,.slice none 0 0,.bool false],.bool false]) [0,1] 4 Z Z Tryz.func46 Z ⟨⟨_,Z,LoadsTo.agg (cs:=[vV 0,.slice none 0 0,.slice none 0 0,.bool false]) zd1 Z (zaw 3 0 0 Z Z Z)⟩,Z,trivial⟩ (⟨RespV.zero,by rw [hp]; rfl,Sl.nil,Sl.nil,Z,Z,by rw [hp]; rfl,Z⟩)
 ·intro hc1
  try dsimp only at hc1
  have hir:=Lib.index_room b [13,10,13,10] kQ
  obtain ⟨i,hi⟩:∃ i:Nat,Lib.index b [13,10,13,10]=(i:Int):=⟨_,(Int.toNat_of_nonneg kQ).symm⟩
  rw [hi] at hir hc1 ⊢
  have hi4:i + 4≤b.length:=by simp only [zC7,zC8] at hir; omega
  refine a5 ?_
  have hleo7:=Rd.le h
  refine zbC 2 0 i C h Z (zab Z Z) Z (by intro h; cases h) kQ kQ kQ kQ Z zaF zg0 Z Z ?_
  clear hleo7
  intro A5 C6 (o7:Rd tyB w0 base H A5 C6 (subl b 0 i))
  have hlo7:(subl b 0 i).length=i - 0:=zal kQ
  refine zcw (Rd.skip 2 o7) Z Z Z zg0 Z Z ?_
  refine zca Z (zrO (x:=subl b 0 i) [13,10] kE kQ T) ?_
  rintro _ _ ⟨⟨A8,C9,ls,s11,o12⟩,hls13,rfl,rfl⟩
  have hls:ls=Lib.split (subl b 0 i) [13,10]:=hls13
  refine a2 ?_
  have hlsl:=zka (x:=subl b 0 i) [13,10] kE
  rw [← hls,zal (show i≤b.length by omega)] at hlsl
  have hsl:∀ s ∈ ls,s.length≤b.length:=by rw [hls]; intro s hs; have h1:=ziJ [13,10] _ _ s hs; rw [zal (show i≤b.length by omega)] at h1; omega
  have hl0:=hsl (ls.getD 0 []) (zaA (l:=ls) (i:=0) kQ)
  refine a3 ?_
  refine zah 0 (o12.rd (i:=0) Z) Z zdh zg0 Z Z Z Z kQ ?_
  refine zax (v:=str (ls.getD 0 [])) zbz zg0 Z Z (zaL (o12.rd (i:=0) Z) (getD_some [] kQ) Z) ?_
  refine zca Z (zrP (x:=(ls.getD 0 [])) [32] kE kQ T) ?_
  rintro _ _ ⟨⟨A14,C15,ws,s17,o18⟩,hws19,rfl,rfl⟩
  have hws:ws=Lib.splitN (ls.getD 0 []) [32] 3:=hws19
  refine a9 ?_
  refine zac Z ?_ ?_
  ·intro hc2
   try dsimp only at hc2
   have hb0:zbc b=if ws.length < 2 then none else zdj (zdX (ws.getD 1 [])) (zbT (ws.getD 1 [])) (subl b (i + 4) b.length) [] (ls.drop 1):=by rw [zbc,hi,zDb kQ,zEJ,← zbK b i,← hls,← hws,zbx]
   have hp:zbc b=none:=by rw [hb0,zDi kQ]
   refine a2 ?_
   refine zak (cs:=[vV 0,.slice none 0 0,.slice none 0 0,.bool false]) zd0 zg0 Z Z Z<|a3 ?_
   refine At.nil<|At.nil ?_
   exact zaE (vs:=[.agg #[vV 0,.slice none 0 0,.slice none 0 0,.bool false],.bool false]) [0,1] 6 Z Z Tryz.func46 Z ⟨⟨_,Z,LoadsTo.agg (cs:=[vV 0,.slice none 0 0,.slice none 0 0,.bool false]) zd1 Z (zaw 5 0 0 Z Z Z)⟩,Z,trivial⟩ (⟨RespV.zero,by rw [hp]; rfl,Sl.nil,Sl.nil,Z,Z,by rw [hp]; rfl,Z⟩)
  ·intro hc2
   try dsimp only at hc2
   have hb0:zbc b=if ws.length < 2 then none else zdj (zdX (ws.getD 1 [])) (zbT (ws.getD 1 [])) (subl b (i + 4) b.length) [] (ls.drop 1):=by rw [zbc,hi,zDb kQ,zEJ,← zbK b i,← hls,← hws,zbx]
   rw [zDb kQ] at hb0
   have hw1:(ws.getD 1 []).length≤b.length:=by have h0:ws.getD 1 [] ∈ Lib.splitN (ls.getD 0 []) [32] 3:=(by rw [← hws]; exact zaA (l:=ws) (i:=1) kQ); have h1:=ziJ [32] _ _ _ h0; omega
   refine a4 ?_
   refine zah 1 (o18.rd (i:=0) Z) Z zdh zg0 Z Z Z Z kQ ?_
   refine zax (v:=str (ws.getD 1 [])) zbz zg0 Z Z (zaL (o18.rd (i:=0) Z) (getD_some [] kQ) Z) ?_
   refine zca Z (zpN (s:=(ws.getD 1 [])) kQ ET) ?_
   rintro _ _ ⟨⟨te20,ea21,rfl⟩,rfl⟩
   refine a9 ?_
   refine zak (cs:=[vV (zbT (ws.getD 1 [])),.slice none 0 0,.slice none 0 0,.bool true]) zd0 zg0 Z Z Z<|AtL.alloc zfo (cs:=#[vV 0,.slice none 0 0,.slice none 0 0,.bool false]) Z zg0 Z ?_
   intro b22
   refine a6 ?_
   have hleo25:=Own.le_cap o12
   refine zgc 1 ls.length C9 o12 (zab Z Z) Z Z (by intro h; cases h) kQ (zDe _) kQ (zDe _) Z zdh zg0 Z Z ?_
   rw [show subl ls 1 ls.length=ls.drop 1 from by unfold subl; rw [zDc kY]]
   intro A23 C24 o25
   refine a4 ?_
   refine At.nil<|zpk [1,0,3,5] 6 ?_
   have hdl:(ls.drop 1).length=ls.length - 1:=by simp
   refine zcC (fun (k:Nat) (x:Sl zbm 112) => [(0,.slice A b.length C),(2,pB b1),(4,vV (i:Int)),(5,.slice A8 ls.length C9),(8,(errV te20 ea21 (zdX (ws.getD 1 [])))),(9,pB b22),(48,.slice A23 (ls.drop 1).length C24),(49,vV ((ls.drop 1).length:Int)),(50,vV (k:Int))]) (fun k x => [(b22,.cells #[vV (zbT (ws.getD 1 [])),.slice x.A x.l.length x.C,.slice none 0 0,.bool true] 55 (0,0))]::x.s::s11::[(b1,.cells #[vV 0,.slice none 0 0,.slice none 0 0,.bool false] 55 (0,0))]::H) (fun k x => k≤(ls.drop 1).length∧x.l.length≤k∧zbc b=zdj (zdX (ws.getD 1 [])) (zbT (ws.getD 1 [])) (subl b (i + 4) b.length) x.l ((ls.drop 1).drop k)) (fun k x => (ls.drop 1).length - k) 0 Sl.nil (⟨zDq _,by simp [Sl.nil],by rw [hb0]; rfl⟩) ⟨Z,Z,Z,Z,Z,Z,Z,Z,Z,trivial⟩ Z ?_
   rintro k x ⟨hk,hxk,hpa⟩ ihL1
   have hcap:=Own.cap_le x.own
   refine a5 ?_
   refine zac Z ?_ ?_
   ·intro hc3
    try dsimp only at hc3
    have hst:=zsP (ok:=zdX (ws.getD 1 [])) (st:=zbT (ws.getD 1 [])) (body:=subl b (i + 4) b.length) (acc:=x.l) (L:=(ls.drop 1)) (k:=k) kQ
    have hlk:=hsl ((ls.drop 1).getD k []) (zEU (zaA (l:=(ls.drop 1)) (i:=k) kQ))
    have hcl:=ztX [58,32] ((ls.drop 1).getD k [])
    refine a6 ?_
    refine zah k (o25.rd (i:=2) Z) Z zdh zg0 Z Z Z Z kQ ?_
    refine zax (v:=str ((ls.drop 1).getD k [])) zbz zg0 Z Z (zaL (o25.rd (i:=2) Z) (getD_some [] kQ) Z)<|a6 ?_
    refine zca Z (zAr (x:=((ls.drop 1).getD k [])) [58,32] kQ T) ?_
    rintro _ _ ⟨rfl,rfl⟩
    refine a12 ?_
    refine zjy (a:=(Lib.cut ((ls.drop 1).getD k []) [58,32]).1) (b:=[67,111,110,116,101,110,116,45,76,101,110,103,116,104]) zg0 Z Z Z<|a1 ?_
    refine zaT Z ?_ ?_
    ·intro hc4
     have hc4:¬ ((Lib.cut ((ls.drop 1).getD k []) [58,32]).1=[67,111,110,116,101,110,116,45,76,101,110,103,116,104]):=zDm (zat hc4)
     have hc4q:(Lib.cut ((ls.drop 1).getD k []) [58,32]).1≠CL1:=hc4
     refine a6 ?_
     refine zak (cs:=[str ((Lib.cut ((ls.drop 1).getD k []) [58,32]).1),str ((Lib.cut ((ls.drop 1).getD k []) [58,32]).2.1)]) zfq zg0 Z Z Z<|zae (cs:=[str ((Lib.cut ((ls.drop 1).getD k []) [58,32]).1),str ((Lib.cut ((ls.drop 1).getD k []) [58,32]).2.1)]) Z zbB zcB Z Z zg0 Z Z Z ?_
     intro b26
     refine zau zbm (l:=([((Lib.cut ((ls.drop 1).getD k []) [58,32]).1,(Lib.cut ((ls.drop 1).getD k []) [58,32]).2.1)]:List (yB×yB))) Z Z kT ?_
     intro s27 o28
     refine zap (l:=x.l) (news:=[((Lib.cut ((ls.drop 1).getD k []) [58,32]).1,(Lib.cut ((ls.drop 1).getD k []) [58,32]).2.1)]) 2 zyG Z x.own (o28.rd (i:=0) Z) (by first | omega | (simp only [zC6,zC7,zC8]; omega) | (simp; done) | (simp; omega)) zg0 Z Z Z ?_
     intro A29 C30 s31 o32
     refine a8 ?_
     refine zpk [1,2,3,4] 5 ?_
     refine ihL1 (k + 1) (⟨A29,C30,x.l++([((Lib.cut ((ls.drop 1).getD k []) [58,32]).1,(Lib.cut ((ls.drop 1).getD k []) [58,32]).2.1)]),s31,o32⟩) (⟨by omega,by simp; omega,by rw [hpa,hst,zDi hc4q]⟩) kQ _ ?_
     exact zen
    ·intro hc4
     have hc4:(Lib.cut ((ls.drop 1).getD k []) [58,32]).1=[67,111,110,116,101,110,116,45,76,101,110,103,116,104]:=zDf (zas hc4)
     have hc4q:¬ (Lib.cut ((ls.drop 1).getD k []) [58,32]).1≠CL1:=fun h => h hc4
     rw [zDb hc4q] at hst
     refine a4 ?_
     refine zca Z (zpN (s:=(Lib.cut ((ls.drop 1).getD k []) [58,32]).2.1) kQ ET) ?_
     rintro _ _ ⟨⟨te33,ea34,rfl⟩,rfl⟩
     refine a21 ?_
     have hleo37:=Rd.le h
     refine zbC 4 (i + 4) b.length C h (zab Z Z) Z Z (by intro h; cases h) kQ kQ kQ kQ Z zaF zg0 Z Z ?_
     clear hleo37
     intro A35 C36 (o37:Rd tyB w0 base H A35 C36 (subl b (i + 4) b.length))
     have hlo37:(subl b (i + 4) b.length).length=b.length - (i + 4):=zal kQ
     refine a8 ?_
     refine zaI 3 (E':=[(91,.bool (decide ((((Lib.cut ((ls.drop 1).getD k []) [58,32]).2.2)=false)∨((zdX (ws.getD 1 []))=false)))),(2,pB b1),(9,pB b22),(15,vV (zbT ((Lib.cut ((ls.drop 1).getD k []) [58,32]).2.1))),(16,(errV te33 ea34 (zdX ((Lib.cut ((ls.drop 1).getD k []) [58,32]).2.1)))),(17,.slice A35 (subl b (i + 4) b.length).length C36)]) (fun J => ?_) ?_
     ·refine zaK (t:=88) Z ?_ ?_
      ·intro hs88
       have hs88:((Lib.cut ((ls.drop 1).getD k []) [58,32]).2.2)=false:=zat hs88
       refine a3 ?_
       exact J _ zej
      ·intro hs88
       have hs88:((Lib.cut ((ls.drop 1).getD k []) [58,32]).2.2)=true:=zas hs88
       refine a1 ?_
       refine znh Z (.inr ⟨_,_,_,Z,Z,Z,Z⟩) Z Z<|a1 ?_
       exact J _ zej
     ·refine a1 ?_
      refine zaI 3 (E':=[(95,.bool (decide (((((Lib.cut ((ls.drop 1).getD k []) [58,32]).2.2)=false)∨((zdX (ws.getD 1 []))=false))∨((zdX ((Lib.cut ((ls.drop 1).getD k []) [58,32]).2.1))=false)))),(2,pB b1),(9,pB b22),(15,vV (zbT ((Lib.cut ((ls.drop 1).getD k []) [58,32]).2.1))),(17,.slice A35 (subl b (i + 4) b.length).length C36)]) (fun J => ?_) ?_
      ·refine zaG (t:=92) Z ?_ ?_
       ·intro hs92
        try dsimp only at hs92
        refine a3 ?_
        exact J _ zej
       ·intro hs92
        try dsimp only at hs92
        refine a1 ?_
        refine znh Z (.inr ⟨_,_,_,Z,Z,Z,Z⟩) Z Z<|a1 ?_
        exact J _ zej
      ·refine a1 ?_
       refine zjn 3 96 [(99,.bool (decide ((((((Lib.cut ((ls.drop 1).getD k []) [58,32]).2.2)=false)∨((zdX (ws.getD 1 []))=false))∨((zdX ((Lib.cut ((ls.drop 1).getD k []) [58,32]).2.1))=false))∨((zbT ((Lib.cut ((ls.drop 1).getD k []) [58,32]).2.1):Int) < 0)))),(2,pB b1),(9,pB b22),(15,vV (zbT ((Lib.cut ((ls.drop 1).getD k []) [58,32]).2.1))),(17,.slice A35 (subl b (i + 4) b.length).length C36)] ?_
       skip
       refine a1 ?_
       refine zjn 5 100 [(105,.bool (decide (((((((Lib.cut ((ls.drop 1).getD k []) [58,32]).2.2)=false)∨((zdX (ws.getD 1 []))=false))∨((zdX ((Lib.cut ((ls.drop 1).getD k []) [58,32]).2.1))=false))∨((zbT ((Lib.cut ((ls.drop 1).getD k []) [58,32]).2.1):Int) < 0))∨(((subl b (i + 4) b.length).length:Int) < (zbT ((Lib.cut ((ls.drop 1).getD k []) [58,32]).2.1)))))),(2,pB b1),(9,pB b22),(15,vV (zbT ((Lib.cut ((ls.drop 1).getD k []) [58,32]).2.1))),(17,.slice A35 (subl b (i + 4) b.length).length C36)] ?_
       skip
       refine a1 ?_
       refine zac Z ?_ ?_
       ·intro hc5
        try dsimp only at hc5
        have hp:zbc b=none:=by rw [hpa,hst,zDi hc5]
        refine a2 ?_
        refine zak (cs:=[vV 0,.slice none 0 0,.slice none 0 0,.bool false]) zd0 zg0 Z Z Z<|a3 ?_
        refine At.nil<|At.nil ?_
        exact zaE (vs:=[.agg #[vV 0,.slice none 0 0,.slice none 0 0,.bool false],.bool false]) [0,1] 6 Z Z Tryz.func46 Z ⟨⟨_,Z,LoadsTo.agg (cs:=[vV 0,.slice none 0 0,.slice none 0 0,.bool false]) zd1 Z (zaw 5 0 0 Z Z Z)⟩,Z,trivial⟩ (⟨RespV.zero,by rw [hp]; rfl,Sl.nil,Sl.nil,Z,Z,by rw [hp]; rfl,Z⟩)
       ·intro hc5
        try dsimp only at hc5
        rw [zDb hc5] at hst
        simp only [zGb] at hc5
        have hsub:(subl b (i + 4) b.length).length=b.length - (i + 4):=by rw [zal (zDe _)]
        refine a5 ?_
        have hleo40:=Rd.le o37
        refine zbC 4 0 ((zbT (Lib.cut ((ls.drop 1).getD k []) [58,32]).2.1).toNat) C36 o37 Z (zab Z kQ) Z (by intro h; cases h) kQ kQ kQ kQ Z zaF zg0 Z Z ?_
        clear hleo40
        intro A38 C39 (o40:Rd tyB w0 base H A38 C39 (subl (subl b (i + 4) b.length) 0 ((zbT (Lib.cut ((ls.drop 1).getD k []) [58,32]).2.1).toNat)))
        have hlo40:(subl (subl b (i + 4) b.length) 0 ((zbT (Lib.cut ((ls.drop 1).getD k []) [58,32]).2.1).toNat)).length=((zbT (Lib.cut ((ls.drop 1).getD k []) [58,32]).2.1).toNat) - 0:=zal kQ
        refine zca Z (zum (l:=subl (subl b (i + 4) b.length) 0 ((zbT (Lib.cut ((ls.drop 1).getD k []) [58,32]).2.1).toNat)) (Rd.skip 4 o40) kQ) ?_
        rintro _ _ ⟨⟨A41,C42,l43,s44,o45⟩,hx46,rfl,rfl⟩
        obtain rfl:subl (subl b (i + 4) b.length) 0 ((zbT (Lib.cut ((ls.drop 1).getD k []) [58,32]).2.1).toNat)=l43:=hx46.symm
        refine a9 ?_
        have hkp:decide ((ls.drop 1).drop (k + 1)=[])=decide ((k:Int) + 2=(ls.length:Int)):=zEM.2 (by rw [List.drop_eq_nil_iff]; constructor <;> (intro h; omega))
        have hp:zbc b=some ⟨zbT (ws.getD 1 []),x.l,(subl b (i + 4) b.length).take (zbT (Lib.cut ((ls.drop 1).getD k []) [58,32]).2.1).toNat,decide ((k:Int) + 2=(ls.length:Int))⟩:=by rw [hpa,hst,hkp]
        exact zaE (vs:=[.agg #[vV (zbT (ws.getD 1 [])),.slice x.A x.l.length x.C,.slice A41 (subl (subl b (i + 4) b.length) 0 ((zbT (Lib.cut ((ls.drop 1).getD k []) [58,32]).2.1).toNat)).length C42,.bool (decide (((k:Int) + 2)=(ls.length:Int)))],.bool true]) [2,0] 5 Z Z Tryz.func46 Z ⟨⟨_,Z,LoadsTo.agg (cs:=[vV (zbT (ws.getD 1 [])),.slice x.A x.l.length x.C,.slice A41 (subl (subl b (i + 4) b.length) 0 ((zbT (Lib.cut ((ls.drop 1).getD k []) [58,32]).2.1).toNat)).length C42,.bool (decide (((k:Int) + 2)=(ls.length:Int)))]) zd1 Z (zaw 4 0 0 Z Z Z)⟩,Z,trivial⟩ (⟨⟨zbT (ws.getD 1 []),x.l,(subl b (i + 4) b.length).take (zbT (Lib.cut ((ls.drop 1).getD k []) [58,32]).2.1).toNat,decide ((k:Int) + 2=(ls.length:Int))⟩,by rw [hp]; rfl,x,⟨A41,C42,subl (subl b (i + 4) b.length) 0 ((zbT (Lib.cut ((ls.drop 1).getD k []) [58,32]).2.1).toNat),s44,o45⟩,Z,by show _=List.take _ _; rw [← zbK],by rw [hp]; rfl,Z⟩)
   ·intro hc3
    try dsimp only at hc3
    have hp:zbc b=none:=by rw [hpa,zDn kQ,zdj]
    refine a3 ?_
    refine zak (cs:=[vV 0,.slice none 0 0,.slice none 0 0,.bool false]) zd0 zg0 Z Z Z<|a3 ?_
    refine At.nil<|At.nil ?_
    exact zaE (vs:=[.agg #[vV 0,.slice none 0 0,.slice none 0 0,.bool false],.bool false]) [0,1] 6 Z Z Tryz.func46 Z ⟨⟨_,Z,LoadsTo.agg (cs:=[vV 0,.slice none 0 0,.slice none 0 0,.bool false]) zd1 Z (zaw 5 0 0 Z Z Z)⟩,Z,trivial⟩ (⟨RespV.zero,by rw [hp]; rfl,Sl.nil,Sl.nil,Z,Z,by rw [hp]; rfl,Z⟩)
theorem zvN (hp:p≤b.length) (hR:R=(zbc (subl b p b.length)).getD RespV.zero) (h:((zbc (subl b p b.length)).isSome=false∨¬ zdi R=0)∨¬ zds R <+: subl b p b.length):zhi b (p:Int)=(.zero,0,4):=by
 rw [zbx] at hR h
 refine zy2 kQ ?_
 rw [zEJ]
 rintro r ho ⟨t,ht⟩
 have hb:=ziN ho t
 rw [ht] at hb
 rw [hb] at hR h
 subst hR
 have he:zdi R=0:=by rw [zdi,zDi ho]
 have hl:zds R=zei R:=by rw [zds,zDi ho]
 rcases h with (h | h) | h
 ·cases h
 ·exact h he
 ·exact h (by rw [hl]; exact ⟨t,ht⟩)
theorem zr6 (hp:p≤b.length) (h:¬ (((zbc (subl b p b.length)).isSome=false∨¬ zdi R=0)∨¬ zds R <+: subl b p b.length)):zhi b (p:Int)=(R,(p:Int) + ((zds R).length:Int),0)∧p + (zds R).length≤b.length:=by
 simp only [zGb,Classical.not_not] at h
 obtain ⟨⟨_,h2⟩,h3⟩:=h
 have ho:=zoQ h2
 have hl:zds R=zei R:=by rw [zds,zDi ho]
 rw [hl,zbx] at h3
 have hle:=h3.length_le
 rw [zDK] at hle
 rw [hl]
 exact ⟨zoT kQ ho (by rw [zEJ]; exact h3),by omega⟩
theorem zr7 (a:Int) (h:Rd tyB w0 base H A C b) (hbl:b.length≤4294967280) (T:Tabs w0 base) (ET:ErrTab w0 base) (T10:Tab10 w0 base) :
  SCalls Tryz.prog 18 [.slice A b.length C,vV a] w0 base (H) (fun v H' => ∃ R:RespV,R=(zhi b a).1∧∃ (x:Sl zbm 112) (y:Sl tyB 5),x.l=R.fs∧y.l=R.body∧v = .tuple #[.agg #[int R.st,.slice x.A x.l.length x.C,.slice y.A y.l.length y.C,.bool R.keep],int (zhi b a).2.1,int (zhi b a).2.2]∧H' = x.s::y.s::H):=by
 have hcap0:=h.cap
 have hle0:=h.le
 refine zaa (n:=52) Tryz.func18 Z Z Z fun cs => ?_
 refine a2 ?_
 refine AtL.alloc zfo (cs:=#[vV 0,.slice none 0 0,.slice none 0 0,.bool false]) Z zg0 Z ?_
 intro b1
 refine a9 ?_
 refine zjn 5 13 [(18,.bool (decide (((a:Int) < 0)∨((b.length:Int) < a)))),(0,.slice A b.length C),(1,vV a),(4,pB b1)] ?_
 skip
 refine a1 ?_
 refine zac Z ?_ ?_
 ·intro hc1
  try dsimp only at hc1
  refine a2 ?_
  refine zak (cs:=[vV 0,.slice none 0 0,.slice none 0 0,.bool false]) zd0 zg0 Z Z Z<|a4 ?_
  refine At.nil<|At.nil ?_
  exact zaE (vs:=[.agg #[vV 0,.slice none 0 0,.slice none 0 0,.bool false],vV 0,vV 5]) [0,1] 3 Z Z Tryz.func18 Z ⟨⟨_,Z,LoadsTo.agg (cs:=[vV 0,.slice none 0 0,.slice none 0 0,.bool false]) zd1 Z (zaw 2 0 0 Z Z Z)⟩,Z,Z,trivial⟩ (⟨RespV.zero,by rw [zkh hc1],Sl.nil,Sl.nil,Z,Z,by rw [zkh hc1]; rfl,Z⟩)
 ·intro hc1
  try dsimp only at hc1
  obtain ⟨p,rfl⟩:∃ p:Nat,a=(p:Int):=⟨a.toNat,by omega⟩
  refine a5 ?_
  have hleo4:=Rd.le h
  refine zbC 1 p b.length C h (zab Z Z) Z Z (by intro h; cases h) kQ kQ kQ kQ Z zaF zg0 Z Z ?_
  clear hleo4
  intro A2 C3 (o4:Rd tyB w0 base H A2 C3 (subl b p b.length))
  have hlo4:(subl b p b.length).length=b.length - p:=zal kQ
  refine zca Z (znu (b:=subl b p b.length) (Rd.skip 1 o4) (by rw [zal (zDe _)]; omega) T ET) ?_
  rintro _ _ ⟨R15,hR16,⟨A5,C6,l7,s8,o9⟩,⟨A10,C11,l12,s13,o14⟩,hx17,hx18,rfl,rfl⟩
  obtain rfl:R15.fs=l7:=hx17.symm
  obtain rfl:R15.body=l12:=hx18.symm
  have hRb:=rp_le hR16
  have hRe:=hR16
  refine a3 ?_
  refine AtL.alloc zfo (cs:=#[vV 0,.slice none 0 0,.slice none 0 0,.bool false]) Z zg0 Z ?_
  intro b19
  refine a6 ?_
  refine zca Z (zkd (st:=R15.st) (fs:=R15.fs) (b:=R15.body) (kp:=R15.keep) (o9.rd (i:=1) Z) (o14.rd (i:=2) Z) (fun f hf => by have h1:=hRb.1 f hf; rw [zal (zDe _)] at h1; omega) T10) ?_
  rintro _ _ ⟨⟨A20,C21,l22,s23,o24⟩,hx25,rfl,rfl⟩
  obtain rfl:zds ⟨R15.st,R15.fs,R15.body,R15.keep⟩=l22:=hx25.symm
  refine a12 ?_
  refine zaI 3 (E':=[(37,.bool (decide ((((zbc (subl b p b.length)).isSome)=false)∨(¬ ((zdi ⟨R15.st,R15.fs,R15.body,R15.keep⟩:Int)=0))))),(0,.slice A b.length C),(1,vV (p:Int)),(4,pB b1),(7,pB b19),(9,.slice A20 (zds ⟨R15.st,R15.fs,R15.body,R15.keep⟩).length C21)]) (fun J => ?_) ?_
  ·refine zaK (t:=34) Z ?_ ?_
   ·intro hs34
    have hs34:((zbc (subl b p b.length)).isSome)=false:=zat hs34
    refine a3 ?_
    exact J _ zej
   ·intro hs34
    have hs34:((zbc (subl b p b.length)).isSome)=true:=zas hs34
    refine a3 ?_
    exact J _ zej
  ·refine a1 ?_
   refine zaI 7 (E':=[(45,.bool (decide (((((zbc (subl b p b.length)).isSome)=false)∨(¬ ((zdi ⟨R15.st,R15.fs,R15.body,R15.keep⟩:Int)=0)))∨(¬ ((zds ⟨R15.st,R15.fs,R15.body,R15.keep⟩) <+: (subl b p b.length)))))),(1,vV (p:Int)),(4,pB b1),(7,pB b19),(9,.slice A20 (zds ⟨R15.st,R15.fs,R15.body,R15.keep⟩).length C21)]) (fun J => ?_) ?_
   ·refine zaG (t:=38) Z ?_ ?_
    ·intro hs38
     try dsimp only at hs38
     refine a7 ?_
     exact J _ zej
    ·intro hs38
     try dsimp only at hs38
     refine a2 ?_
     have hleo28:=Rd.le h
     refine zbC 5 p b.length C h (zab Z Z) Z Z (by intro h; cases h) kQ kQ kQ kQ Z zaF (.inr ⟨_,_,_,Z,Z,Z,Z⟩) Z Z ?_
     clear hleo28
     intro A26 C27 (o28:Rd tyB w0 base H A26 C27 (subl b p b.length))
     have hlo28:(subl b p b.length).length=b.length - p:=zal kQ
     refine a1 ?_
     refine zca Z (zlw (l:=subl b p b.length) (m:=zds ⟨R15.st,R15.fs,R15.body,R15.keep⟩) (Rd.skip 5 o28) (o24.rd (i:=0) Z)) ?_
     rintro _ _ ⟨rfl,rfl⟩
     refine a2 ?_
     exact J _ zej
   ·refine a1 ?_
    refine zac Z ?_ ?_
    ·intro hc2
     try dsimp only at hc2
     refine a2 ?_
     refine zak (cs:=[vV 0,.slice none 0 0,.slice none 0 0,.bool false]) zd0 zg0 Z Z Z<|a4 ?_
     refine At.nil<|At.nil ?_
     have hrd:=zvN (b:=b) (p:=p) kQ hRe hc2
     exact zaE (vs:=[.agg #[vV 0,.slice none 0 0,.slice none 0 0,.bool false],vV 0,vV 4]) [0,1] 7 Z Z Tryz.func18 Z ⟨⟨_,Z,LoadsTo.agg (cs:=[vV 0,.slice none 0 0,.slice none 0 0,.bool false]) zd1 Z (zaw 6 0 0 Z Z Z)⟩,Z,Z,trivial⟩ (⟨RespV.zero,by rw [hrd],Sl.nil,Sl.nil,Z,Z,by rw [hrd]; rfl,Z⟩)
    ·intro hc2
     try dsimp only at hc2
     obtain ⟨hrd,hpl⟩:=zr6 (b:=b) (p:=p) kQ hc2
     refine a12 ?_
     exact zaE (vs:=[.agg #[vV R15.st,.slice A5 R15.fs.length C6,.slice A10 R15.body.length C11,.bool R15.keep],vV ((p:Int) + ((zds ⟨R15.st,R15.fs,R15.body,R15.keep⟩).length:Int)),vV 0]) [2,3] 5 Z Z Tryz.func18 Z ⟨⟨_,Z,LoadsTo.agg (cs:=[vV R15.st,.slice A5 R15.fs.length C6,.slice A10 R15.body.length C11,.bool R15.keep]) zd1 Z (zaw 4 0 0 Z Z Z)⟩,Z,Z,trivial⟩ (⟨R15,by rw [hrd],⟨A5,C6,R15.fs,s8,o9⟩,⟨A10,C11,R15.body,s13,o14⟩,Z,Z,by rw [hrd]; rfl,Z⟩)
section
variable {κ β:Type}(Q:Ky κ) (tv:β→Value)
def zbQ (l:List (κ×β×Nat)):List MapEntry:=l.map fun e => ⟨Q.val e.1,tv e.2.1,e.2.2⟩
abbrev stG (l:List (κ×β×Nat)):List Nat:=l.map fun e => e.2.2
def mapG (l:List (κ×β×Nat)) (n:Nat):Obj:=.map (zbQ Q tv l).toArray n
end
section
variable {κ β:Type} [DecidableEq κ]
def atG (a:κ):List (κ×β×Nat)→Option β
 | [] => none
 | e::r => if a=e.1 then some e.2.1 else atG a r
def setG (a:κ) (v:β):List (κ×β×Nat)→List (κ×β×Nat)
 | [] => []
 | e::r => if a=e.1 then (a,v,e.2.2)::r else e::setG a v r
def delG (a:κ):List (κ×β×Nat)→List (κ×β×Nat)
 | [] => []
 | e::r => if a=e.1 then r else e::delG a r
end
theorem zAF (a:yB):Instr.sameBits 10000 (kyS.val a) (kyS.val a)=true:=by
 show (ByteArray.mk ⟨a⟩ == ByteArray.mk ⟨a⟩)=true
 show ((Array.mk a) == (Array.mk a))=true
 grind
section
variable {κ β:Type} [DecidableEq κ] {Q:Ky κ}{tv:β→Value}
theorem zsI (l m:List (κ×β×Nat)):zbQ Q tv (l++m)=zbQ Q tv l++zbQ Q tv m:=by simp [zbQ]
theorem zmE {d:TypeDesc}(hd:Q.kd d=true) (a:κ) (l:List (κ×β×Nat)) (i:Nat) :
  (atG a l=none∧Instr.findNow d (Q.val a) (zbQ Q tv l) i=some none) ∨
  ∃ j u,atG a l=some u∧Instr.findNow d (Q.val a) (zbQ Q tv l) i=some (some (i + j,tv u))∧j < l.length∧((zbQ Q tv l)[j]?.map (·.key))=some (Q.val a) ∧
   (∀ v,(zbQ Q tv l).modify j (fun e => { e with key:=Q.val a,val:=tv v })=zbQ Q tv (setG a v l))∧(zbQ Q tv l).eraseIdx j=zbQ Q tv (delG a l):=by
 induction l generalizing i with
 | nil => exact .inl ⟨rfl,rfl⟩
 | cons p r ih =>
  obtain ⟨t,ht,hab⟩:=Q.same d a p.1 hd
  have e0:zbQ Q tv (p::r)=⟨Q.val p.1,tv p.2.1,p.2.2⟩::zbQ Q tv r:=rfl
  rw [e0]
  simp only [Instr.findNow,ht]
  cases t with
  | true =>
   have hk:=hab.1 rfl
   refine .inr ⟨0,p.2.1,by rw [atG,zDi hk],Z,Nat.succ_pos _,by grind,fun v => ?_,?_⟩
   ·rw [setG,zDi hk]; rfl
   simp_all [delG,zDi]
  | false =>
   have hk:¬ a=p.1:=fun h => by grind
   rcases ih (i + 1) with ⟨h1,h2⟩ | ⟨j,u,h1,h2,h3,h4,h5,h6⟩
   ·simp_all [atG,zDb]
   ·refine .inr ⟨j + 1,u,by simp_all [atG,zDb],by grind,by grind,by grind,fun v => ?_,?_⟩
    ·rw [setG,zDb hk,show zbQ Q tv (p::setG a v r)=⟨Q.val p.1,tv p.2.1,p.2.2⟩::zbQ Q tv (setG a v r) from rfl,← h5 v]; rfl
    ·rw [delG,zDb hk,show zbQ Q tv (p::delG a r)=⟨Q.val p.1,tv p.2.1,p.2.2⟩::zbQ Q tv (delG a r) from rfl,← h6]; rfl
theorem zhQ (hk:P.underlying kt=some dd) (hd:Q.kd dd=true) {a:κ}{l:List (κ×β×Nat)}(h:atG a l=none):(Instr.findKey kt (Q.val a) (zbQ Q tv l)).run P w = .ok none w:=by
 rcases zmE (tv:=tv) hd a l 0 with ⟨h1,h2⟩ | ⟨j,u,h1,_⟩
 ·simp_all [Instr.findKey,run_underlying,Sem.run_bind,Result.andThen_ok,Sem.run_pure]
 grind
theorem zhP (hk:P.underlying kt=some dd) (hd:Q.kd dd=true) {a:κ}{u:β}{l:List (κ×β×Nat)}(h:atG a l=some u):∃ j,(Instr.findKey kt (Q.val a) (zbQ Q tv l)).run P w = .ok (some (j,tv u)) w∧j < l.length∧((zbQ Q tv l)[j]?.map (·.key))=some (Q.val a) ∧
   (∀ v,(zbQ Q tv l).modify j (fun e => { e with key:=Q.val a,val:=tv v })=zbQ Q tv (setG a v l))∧(zbQ Q tv l).eraseIdx j=zbQ Q tv (delG a l):=by
 rcases zmE (tv:=tv) hd a l 0 with ⟨h1,h2⟩ | ⟨j,u',h1,h2,h3⟩
 ·grind
 simp_all [Instr.findKey,run_underlying,Sem.run_bind,Result.andThen_ok,Sem.run_pure,zEi]
end
section
variable {X:Pt}{k:List Item}{E:Env}{ds:List Deferred}{H:List Seg}{ops:Array Oper}{os:List Oper}
  {d:Nat}{ty:TypeId}{pos:String}{after:Array Edge}{g:Option (Nat×Bool)}{κ β:Type} [DecidableEq κ] {Q:Ky κ}{tv:β→Value}
theorem zoi (Q:Ky κ) (tv:β→Value) :Does X E H (.makeMap t none) (fun v H' => ∃ b,v = .map (some b)∧H' = [(b,mapG Q tv ([]:List (κ×β×Nat)) 0)]::H):=zkH Q tv
theorem zia (Q:Ky κ) (tv:β→Value) (hg:Wd X ops E g) (hd:Nat.blt d X.n=true) (hk:∀ b,AtL X ops os k ((d,.map (some b))::E) ds ([(b,mapG Q tv ([]:List (κ×β×Nat)) 0)]::H)) :
  AtL X ops (⟨some d,.makeMap t none,ty,pos,after,g⟩::os) k E ds H :=
 AtL.of (zoi Q tv) hg hd fun _ _ ⟨b,hv,hH⟩ => by subst hv; subst hH; exact hk b
theorem zb1 {xt:TypeId}{ix:Operand}{a i v:Value}(hx:ev E x=some a) (hi:ev E ix=some i) (hr:∀ w,(Instr.index xt a i).run X.P w = .ok v w):Does X E H (.index xt x ix) (Is v H) :=
 zan rfl (fun dst ty pos after g ρ w hρ => by simp_all [execOp])
theorem zom {ps:Array (Nat×Operand)}{vs:List (Nat×Value)}{v:Value}(hx:evsP E ps.toList=some vs) (hr:∀ w,(Instr.build t vs.toArray).run X.P w = .ok v w):Does X E H (.build t ps) (Is v H) :=
 zan rfl (fun dst ty pos after g ρ w hρ => by
  have e:(ps.map fun p => (p.1,ρ p.2))=vs.toArray:=by
   apply zD5
   rw [zEY]
   exact ziu hρ hx
  grind [execOp,Sem.run_bind,Result.andThen_ok,Sem.run_pure])
theorem zmR {b:Option Nat}(hu:P.underlying t=some (.map kt et)):(Op.equalIn (n + 1) t (.map b) (.map none)).run P w = .ok b.isNone w:=by
 cases b <;> simp [Op.equalIn,run_underlying hu]
theorem zgs {tx tz:TypeId}{b:Option Nat}(hu:X.P.underlying tx=some (.map kt et)) (hx:ev E x=some (.map b)) (hy:ev E y=some (.map none)):Does X E H (.binOp .eql tx x y tz) (Is (.bool b.isNone) H) :=
 zol rfl rfl hx hy (fun w => zmR hu)
theorem znL {b:Nat}{l:List (κ×β×Nat)}{a:κ}(ok:Bool) (hu:P.underlying t=some (.map kt et)) (hk:P.underlying kt=some dd) (hd:Q.kd dd=true) (hb:w.heap[b]? = some (mapG Q tv l n)) (hz:zbr P et=some z) :
  (Instr.lookup t (.map (some b)) (Q.val a) ok).run P w = .ok (if ok then .tuple #[((atG a l).map tv).getD z,.bool (atG a l).isSome] else ((atG a l).map tv).getD z) w:=by
 have hg:(getObj b).run P w = .ok (mapG Q tv l n) w:=zcV hb rfl
 unfold Instr.lookup
 simp only [run_underlying hu,Sem.run_bind,Result.andThen_ok,hg,mapG,Sem.run_pure,zea hk hd]
 cases h:atG a l with
 | none => simp_all [zhQ,Sem.run_bind,Result.andThen_ok,zfj,Sem.run_pure,zE8,Option.getD_none,zFN]
 | some u =>
  obtain ⟨j,h1,_⟩:=zhP (P:=P) (w:=w) (tv:=tv) hk hd h
  simp_all
theorem zq4 {b:Nat}{l:List (κ×β×Nat)}{a:κ}{v:Value}(i j:Nat) (hu:X.P.underlying t=some (.map kt et)) (hk:X.P.underlying kt=some dd) (hd:Q.kd dd=true) (hz:zbr X.P et=some z)
  (hi:H[i]? = some s) (hj:s[j]? = some (b,mapG Q tv l n)) (hx:ev E x=some (.map (some b))) (hy:ev E y=some (Q.val a)) (hv:(if ok then .tuple #[((atG a l).map tv).getD z,.bool (atG a l).isSome] else ((atG a l).map tv).getD z)=v):Does X E H (.lookup t x y ok) (Is v H) :=
 zaq rfl fun dst ty pos after g ρ w hρ S => ⟨v,w,H,by
  have:=znL (P:=X.P) (a:=a) ok hu hk hd (S.at_ hi hj).1 hz
  simp_all [execOp],S,rfl,rfl⟩
theorem zjB {b:Nat}{l:List (κ×β×Nat)}{a:κ}{v:Value}(i j:Nat) (hu:X.P.underlying t=some (.map kt et)) (hk:X.P.underlying kt=some dd) (hd:Q.kd dd=true) (hz:zbr X.P et=some z) (hg:Wd X ops E g) (hd2:Nat.blt d X.n=true)
  (hi:H[i]? = some s) (hj:s[j]? = some (b,mapG Q tv l n)) (hx:ev E x=some (.map (some b))) (hy:ev E y=some (Q.val a)) (hv:(if ok then .tuple #[((atG a l).map tv).getD z,.bool (atG a l).isSome] else ((atG a l).map tv).getD z)=v) (hk2:AtL X ops os k ((d,v)::E) ds H) :
  AtL X ops (⟨some d,.lookup t x y ok,ty,pos,after,g⟩::os) k E ds H:=zai (zq4 i j hu hk hd hz hi hj hx hy hv) hg hd2 hk2
def putG (a:κ) (v:β) (l:List (κ×β×Nat)) (n:Nat):List (κ×β×Nat):=if (atG a l).isSome then setG a v l else l++[(a,v,n)]
def putN (a:κ) (l:List (κ×β×Nat)) (n:Nat):Nat:=if (atG a l).isSome then n else n + 1
theorem zvU {a:κ}{v:β}{l:List (κ×β×Nat)}(h:atG a l=none):putG a v l n=l++[(a,v,n)]:=by grind [putG]
theorem zjL {b:Nat}{l:List (κ×β×Nat)}{a:κ}{v:β}(hu:P.underlying t=some (.map kt et)) (hk:P.underlying kt=some dd) (hd:Q.kd dd=true) (hbits:∀ a,Instr.sameBits 10000 (Q.val a) (Q.val a)=true) (hb:w.heap[b]? = some (mapG Q tv l n)) :
  (Instr.mapUpdate t (.map (some b)) (Q.val a) (tv v)).run P w = .ok () { w with heap:=w.heap.setIfInBounds b (mapG Q tv (putG a v l n) (putN a l n)) }:=by
 have hg:(getObj b).run P w = .ok (mapG Q tv l n) w:=zcV hb rfl
 have hs:∀ o,(setObj b o).run P w = .ok () { w with heap:=w.heap.setIfInBounds b o }:=fun o => zbP hb rfl
 unfold Instr.mapUpdate
 simp only [run_underlying hu,Sem.run_bind,Result.andThen_ok,hg,mapG,zea hk hd]
 cases h:atG a l with
 | none =>
  simp only [zhQ hk hd h,Sem.run_bind,Result.andThen_ok,hs,putG,putN,h,zFN,zDy,zDU,zsI,zFZ]
  rfl
 | some u =>
  obtain ⟨j,h1,h2,h3,h4,_⟩:=zhP (P:=P) (w:=w) (tv:=tv) hk hd h
  simp_all [Option.map,zbQ,Sem.run_bind,Result.andThen_ok,putG,putN,Option.isSome_some,zEm,Instr.keyThatStays,zEn,zEg,Sem.run_pure,List.modify_toArray]
theorem zA1 {z:Operand}{b:Nat}{l:List (κ×β×Nat)}{a:κ}{v:β}{H' : List Seg}(i j:Nat) (hu:X.P.underlying t=some (.map kt et)) (hk:X.P.underlying kt=some dd) (hd:Q.kd dd=true) (hbits:∀ a,Instr.sameBits 10000 (Q.val a) (Q.val a)=true)
  (hi:H[i]? = some s) (hj:s[j]? = some (b,mapG Q tv l n)) (hx:ev E x=some (.map (some b))) (hy:ev E y=some (Q.val a)) (hz:ev E z=some (tv v)) (hH:H.set i (s.set j (b,mapG Q tv (Proofs.YtjmnjkoekabioaaGreatDoor.putG a v l n) (putN a l n)))=H'):Does X E H (.mapUpdate t x y z) (fun u H2 => u=undef∧H2=H') :=
 zcL Z fun dst ty pos after g ρ w hρ S => by
  have hb:=(S.at_ hi hj).1
  refine ⟨_,H',?_,hH ▸ S.setObj hi hj _,Z,Z⟩
  have:=zjL (P:=X.P) (a:=a) (v:=v) hu hk hd hbits hb
  simp_all [execOp]
theorem zlG {z:Operand}{b:Nat}{l:List (κ×β×Nat)}{a:κ}{v:β}{H' : List Seg}(i j:Nat) (hu:X.P.underlying t=some (.map kt et)) (hk:X.P.underlying kt=some dd) (hd:Q.kd dd=true) (hbits:∀ a,Instr.sameBits 10000 (Q.val a) (Q.val a)=true) (hg:Wd X ops E g)
  (hi:H[i]? = some s) (hj:s[j]? = some (b,mapG Q tv l n)) (hx:ev E x=some (.map (some b))) (hy:ev E y=some (Q.val a)) (hz:ev E z=some (tv v)) (hH:H.set i (s.set j (b,mapG Q tv (Proofs.YtjmnjkoekabioaaGreatDoor.putG a v l n) (putN a l n)))=H') (hk2:AtL X ops os k E ds H') :
  AtL X ops (⟨none,.mapUpdate t x y z,ty,pos,after,g⟩::os) k E ds H :=
 AtL.of (zA1 i j hu hk hd hbits hi hj hx hy hz hH) hg rfl fun _ _ ⟨hv,hH⟩ => by subst hv; subst hH; exact hk2
theorem zuJ {b:Nat}{l:List (κ×β×Nat)}(i j:Nat) (hu:X.P.underlying t=some (.map kt et)) (hi:H[i]? = some s) (hj:s[j]? = some (b,mapG Q tv l n)) (hx:ev E x=some (.map (some b))) :
  Does X E H (.range t x) (fun v H' => ∃ r,v = .pointer (some ⟨r,0,none⟩)∧H' = [(r,.mapIter (some b) n #[] n)]::H) :=
 zaq rfl fun dst ty pos after g ρ w hρ S => ⟨.pointer (some ⟨w.heap.size,0,none⟩),w.alloc (.mapIter (some b) n #[] n),_,by
  have hg:(getObj b).run X.P w = .ok (mapG Q tv l n) w:=zcV (S.at_ hi hj).1 rfl
  simp_all [execOp,Instr.range,run_underlying,mapG,newObj,Sem.run],S.alloc _,w.heap.size,rfl,rfl⟩
theorem zq6 {b:Nat}{l:List (κ×β×Nat)}(i j:Nat) (hu:X.P.underlying t=some (.map kt et)) (hg:Wd X ops E g) (hd:Nat.blt d X.n=true) (hi:H[i]? = some s) (hj:s[j]? = some (b,mapG Q tv l n)) (hx:ev E x=some (.map (some b)))
  (hk:∀ r,AtL X ops os k ((d,.pointer (some ⟨r,0,none⟩))::E) ds ([(r,.mapIter (some b) n #[] n)]::H)) :
  AtL X ops (⟨some d,.range t x,ty,pos,after,g⟩::os) k E ds H:=AtL.of (zuJ i j hu hi hj hx) hg hd fun _ _ ⟨r,hv,hH⟩ => by subst hv; subst hH; exact hk r
theorem zjl (w:World) (q:Nat) (hq:0 < q):∃ c m,c < q∧(choose (.mapNext q)).run P w = .ok c { w with drawn:=m }:=by
 show ∃ c m,c < q∧(if (Question.mapNext q).forced then (Sem.pure 0).run P w else (Sem.pure ((Question.mapNext q).cut (w.tape w.drawn (.mapNext q)))).run P { w with drawn:=w.drawn + 1 }) = .ok c { w with drawn:=m }
 by_cases hf:(Question.mapNext q).forced=true
 ·exact ⟨0,w.drawn,hq,by simp_all⟩
 ·exact ⟨_,w.drawn + 1,zEE _ hq,by rw [zDb hf]; rfl⟩
theorem zsA {r b:Nat}{ty:TypeId}{l:List (κ×β×Nat)}{vis:List (κ×β×Nat)}(hr:w.heap[r]? = some (.mapIter (some b) n (vis.map fun e => e.2.2).toArray n)) (hb:w.heap[b]? = some (mapG Q tv l n)) (hlt:∀ e ∈ l,e.2.2 < n) :
  ∃ m,((∀ e ∈ l,e.2.2 ∈ vis.map fun e => e.2.2)∧(Instr.next (pB r) false ty).run P w = .ok (.tuple #[.bool false]) { w with drawn:=m }) ∨
  ∃ e ∈ l,e.2.2 ∉ (vis.map fun e => e.2.2)∧(Instr.next (pB r) false ty).run P w = .ok (.tuple #[.bool true,Q.val e.1,tv e.2.1]) { w with drawn:=m,heap:=w.heap.setIfInBounds r (.mapIter (some b) n ((vis++[e]).map fun e => e.2.2).toArray n) }:=by
 have hg1:(getObj r).run P w = .ok (.mapIter (some b) n (vis.map fun e => e.2.2).toArray n) w:=zcV hr rfl
 have hg2:(getObj b).run P w = .ok (mapG Q tv l n) w:=zcV hb rfl
 have hs:∀ m o,(setObj r o).run P { w with drawn:=m } = .ok () { w with drawn:=m,heap:=w.heap.setIfInBounds r o }:=fun m o => zbP (w:={ w with drawn:=m }) hr rfl
 have hall:¬ ((!(vis.map fun e => e.2.2).toArray.isEmpty && !(zbQ Q tv l).toArray.isEmpty && (zbQ Q tv l).toArray.all fun x => decide (x.born ≥ n))=true):=by
  intro h
  cases l with
  | nil => grind [zbQ]
  | cons e l =>
   grind [List.mem_cons_self,zbQ]
 have hold:((((zbQ Q tv l).toArray.filter fun e => !(vis.map fun e => e.2.2).toArray.contains e.born)).filter fun e => decide (e.born < n)).toList=zbQ Q tv (l.filter fun e => !(vis.map fun e => e.2.2).contains e.2.2):=by
  grind [Array.toList_filter,List.filter_filter,zbQ,List.filter_congr]
 have hnew:((((zbQ Q tv l).toArray.filter fun e => !(vis.map fun e => e.2.2).toArray.contains e.born)).filter fun e => decide (e.born ≥ n)) = #[]:=by
  apply Array.toList_inj.1
  simp only [zFH,zFO]
  rw [zGj.2]
  intro e he h
  simp only [zbQ,zDC] at he
  grind
 unfold Instr.next
 simp only [Sem.run_bind,hg1,Result.andThen_ok,hg2,mapG,hall,zDU,zDy]
 generalize ho:(((zbQ Q tv l).toArray.filter fun e => !(vis.map fun e => e.2.2).toArray.contains e.born).filter fun e => decide (e.born < n))=old at hold
 rw [hnew,Array.append_empty]
 cases hl:(l.filter fun e => !(vis.map fun e => e.2.2).contains e.2.2) with
 | nil =>
  rw [hl] at hold
  have e0:old = #[]:=Array.toList_inj.1 (by rw [hold]; rfl)
  obtain ⟨c,m,hc,hch⟩:=zjl (P:=P) w 1 Nat.one_pos
  refine ⟨m,.inl ⟨fun e he => ?_,?_⟩⟩
  ·grind [List.filter_eq_nil_iff]
  ·subst e0
   obtain rfl:c=0:=by omega
   simp only [Array.isEmpty_empty,zEm,Array.map_empty,Array.append_empty,zEI,zC7,zC8,zEi,hch,Sem.run_bind,Result.andThen_ok]
   rfl
 | cons e0 r0 =>
  rw [hl] at hold
  have hne:old.isEmpty=false:=by
   have:old≠#[]:=fun h => by rw [h] at hold; cases hold
   grind
  have hsz:old.size=(e0::r0).length:=by grind [Array.length_toList,zbQ,List.length_map]
  obtain ⟨c,m,hc,hch⟩:=zjl (P:=P) w old.size (by grind)
  have hq:c < (e0::r0).length:=by omega
  have hmem:(e0::r0)[c] ∈ l.filter fun e => !(vis.map fun e => e.2.2).contains e.2.2:=by grind
  refine ⟨m,.inr ⟨(e0::r0)[c],(zEs.1 hmem).1,by grind,?_⟩⟩
  have hget:(old.map some)[c]? = some (some ⟨Q.val (e0::r0)[c].1,tv (e0::r0)[c].2.1,(e0::r0)[c].2.2⟩):=by
   grind [zbQ,List.getElem?_eq_getElem]
  simp only [hne,zDy,zDU,Array.empty_append,Array.size_map,hch,Sem.run_bind,Result.andThen_ok,hget,hs,Sem.run_pure,zFZ,zDL,zDo,zEd]
theorem zng {r b:Nat}{l vis:List (κ×β×Nat)}(i j i2 j2:Nat) (hg:Wd X ops E g) (hd:Nat.blt d X.n=true) (hi:H[i]? = some s) (hj:s[j]? = some (r,.mapIter (some b) n (vis.map fun e => e.2.2).toArray n)) (hi2:H[i2]? = some s2) (hj2:s2[j2]? = some (b,mapG Q tv l n)) (hlt:∀ e ∈ l,e.2.2 < n) (hx:ev E x=some (pB r))
  (hk0:(∀ e ∈ l,e.2.2 ∈ vis.map fun e => e.2.2)→AtL X ops os k ((d,.tuple #[.bool false])::E) ds H)
  (hk1:∀ e ∈ l,e.2.2 ∉ (vis.map fun e => e.2.2)→AtL X ops os k ((d,.tuple #[.bool true,Q.val e.1,tv e.2.1])::E) ds (H.set i (s.set j (r,.mapIter (some b) n ((vis++[e]).map fun e => e.2.2).toArray n)))) :
  AtL X ops (⟨some d,.next x false,ty,pos,after,g⟩::os) k E ds H:=by
 refine AtL.of (R:=fun v H' => ((∀ e ∈ l,e.2.2 ∈ vis.map fun e => e.2.2)∧v = .tuple #[.bool false]∧H' = H)∨∃ e ∈ l,e.2.2 ∉ (vis.map fun e => e.2.2)∧v = .tuple #[.bool true,Q.val e.1,tv e.2.1]∧H' = H.set i (s.set j (r,.mapIter (some b) n ((vis++[e]).map fun e => e.2.2).toArray n))) (zaq Z fun dst ty pos after g ρ w hρ S => ?_) hg hd fun v H' h => ?_
 ·have h1:=(S.at_ hi hj).1
  have h2:=(S.at_ hi2 hj2).1
  obtain ⟨m,⟨ha,hr⟩ | ⟨e,he,hn,hr⟩⟩:=zsA (P:=X.P) (ty:=ty) h1 h2 hlt
  ·exact ⟨_,{ w with drawn:=m },H,by simp_all [execOp],S.drawn _,.inl ⟨ha,rfl,rfl⟩⟩
  ·exact ⟨_,{ w with drawn:=m,heap:=w.heap.setIfInBounds r (.mapIter (some b) n ((vis++[e]).map fun e => e.2.2).toArray n) },_,by simp_all [execOp],Sep.drawn (S.setObj hi hj _) m,.inr ⟨e,he,hn,Z,Z⟩⟩
 ·rcases h with ⟨ha,rfl,rfl⟩ | ⟨e,he,hn,rfl,rfl⟩
  ·exact hk0 ha
  ·exact hk1 e he hn
theorem zjx {b:Nat}{l:List (κ×β×Nat)}(i j:Nat) (hu:X.P.underlying t=some (.map kt et)) (hg:Wd X ops E g) (hd:Nat.blt d X.n=true) (hi:H[i]? = some s) (hj:s[j]? = some (b,mapG Q tv l n)) (hx:ev E x=some (.map (some b)))
  (hk:∀ r,AtL X ops os k ((d,.pointer (some ⟨r,0,none⟩))::E) ds ([(r,.mapIter (some b) n (([]:List (κ×β×Nat)).map fun e => e.2.2).toArray n)]::H)) :
  AtL X ops (⟨some d,.range t x,ty,pos,after,g⟩::os) k E ds H:=zq6 i j hu hg hd hi hj hx hk
theorem zuR {r b:Nat}{l vis:List (κ×β×Nat)}{e:κ×β×Nat}(i j i2 j2:Nat) (hi:H[i]? = some s) (hj:s[j]? = some (r,.mapIter (some b) n ((vis++[e]).map fun e => e.2.2).toArray n)) (hi2:H[i2]? = some s2) (hj2:s2[j2]? = some (b,mapG Q tv l n)) (he:e ∈ l) (hn:(l.map fun e => e.2.2).Nodup) (hx:ev E x=some (.pointer (some ⟨r,0,none⟩))) :
  Does X E H (.entry x) (Is (.tuple #[Q.val e.1,tv e.2.1]) H) :=
 zaq rfl fun dst ty pos after g ρ w hρ S => ⟨_,w,H,by
  have hg1:(getObj r).run X.P w = .ok (.mapIter (some b) n ((vis++[e]).map fun e => e.2.2).toArray n) w:=zcV (S.at_ hi hj).1 rfl
  have hg2:(getObj b).run X.P w = .ok (mapG Q tv l n) w:=zcV (S.at_ hi2 hj2).1 rfl
  have hf:∀ l:List (κ×β×Nat),e ∈ l→(l.map fun e => e.2.2).Nodup→(zbQ Q tv l).find? (fun x => x.born == e.2.2)=some ⟨Q.val e.1,tv e.2.1,e.2.2⟩:=by
   intro l
   induction l with
   | nil => grind
   | cons p r ih =>
    intro h hn
    rw [zDo,zE5] at hn
    rw [show zbQ Q tv (p::r)=⟨Q.val p.1,tv p.2.1,p.2.2⟩::zbQ Q tv r from rfl,List.find?_cons]
    grind
  simp_all [List.map,execOp,Instr.entry,mapG],S,rfl,rfl⟩
theorem zkM {r b:Nat}{l vis:List (κ×β×Nat)}{e:κ×β×Nat}(i j i2 j2:Nat) (hg:Wd X ops E g) (hd:Nat.blt d X.n=true) (hi:H[i]? = some s) (hj:s[j]? = some (r,.mapIter (some b) n ((vis++[e]).map fun e => e.2.2).toArray n)) (hi2:H[i2]? = some s2) (hj2:s2[j2]? = some (b,mapG Q tv l n)) (he:e ∈ l) (hn:(l.map fun e => e.2.2).Nodup) (hx:ev E x=some (.pointer (some ⟨r,0,none⟩)))
  (hk:AtL X ops os k ((d,.tuple #[Q.val e.1,tv e.2.1])::E) ds H) :
  AtL X ops (⟨some d,.entry x,ty,pos,after,g⟩::os) k E ds H:=zai (zuR i j i2 j2 hi hj hi2 hj2 he hn hx) hg hd hk
theorem zoz {l vis:List (κ×β×Nat)}(hv:∀ e ∈ vis,e ∈ l) (hn:(l.map fun e => e.2.2).Nodup) (hm:(vis.map fun e => e.2.2).Nodup) (h:∀ e ∈ l,e.2.2 ∈ vis.map fun e => e.2.2):vis.Perm l:=by
 have inj:∀ a ∈ l,∀ b ∈ l,a.2.2=b.2.2→a=b:=by
  intro a ha b hb hab
  clear h hv hm
  induction l with
  | nil => cases ha
  | cons p r ih =>
   rw [zDo,zE5] at hn
   rcases zDp.1 ha with rfl | ha' <;> rcases zDp.1 hb with rfl | hb'
   ·rfl
   ·grind
   ·grind
   grind
 grind [List.Pairwise.of_map,List.perm_ext_iff_of_nodup]
end
theorem zn4 [DecidableEq κ] {a:κ}{u:β}{l:List (κ×β×Nat)}(h:atG a l=some u):∃ e ∈ l,e.1=a∧e.2.1=u:=by
 induction l with
 | nil => cases h
 | cons p r ih =>
  rw [atG] at h
  grind
theorem zoJ {κ β:Type} [DecidableEq κ] {a:κ}{v:β}{P:κ→β→Prop}(hv:P a v):∀ l:List (κ×β×Nat),(∀ e ∈ l,P e.1 e.2.1)→∀ e ∈ setG a v l,P e.1 e.2.1
 | [],_,e,he => by cases he
 | p::r,hl,e,he => by
  rw [setG] at he
  split at he
  ·grind
  ·rcases zDp.1 he with rfl | he
   ·grind
   ·exact zoJ hv r (fun x hx => hl x (zDF _ hx)) e he
theorem zk5 [DecidableEq κ] {a:κ}{v:β}{l:List (κ×β×Nat)}{P:κ→β→Prop}(hl:∀ e ∈ l,P e.1 e.2.1) (hv:P a v):∀ e ∈ putG a v l n,P e.1 e.2.1:=by
 unfold putG
 split
 ·exact zoJ hv l hl
 grind
theorem PkOk.put {B:β→yB}{m:Nat}{a:yB}{v:Int}(h:PkOk B n T) (hv:PkE B n a v):PkOk B n (putG a v T m):=zk5 (P:=PkE B n) h hv
def WfG (l:List (κ×β×Nat)) (n:Nat):Prop:=(∀ e ∈ l,e.2.2 < n)∧(l.map fun e => e.2.2).Nodup
theorem WfG.nil :WfG ([]:List (κ×β×Nat)) n:=⟨fun _ h => (by cases h),zGo⟩
theorem ziM {κ β:Type} [DecidableEq κ] {a:κ}{v:β}:∀ l:List (κ×β×Nat),(setG a v l).map (fun e => e.2.2)=l.map fun e => e.2.2
 | [] => rfl
 | p::r => by
  rw [setG]
  split
  ·rfl
  ·rw [zDo,ziM r,zDo]
theorem WfG.put [DecidableEq κ] {a:κ}{v:β}{l:List (κ×β×Nat)}(h:WfG l n):WfG (putG a v l n) (putN a l n):=by
 unfold putG putN
 split
 ·refine ⟨fun e he => ?_,by rw [ziM]; exact h.2⟩
  have h1:e.2.2 ∈ (setG a v l).map fun e => e.2.2:=zDC.2 ⟨e,he,rfl⟩
  rw [ziM] at h1
  obtain ⟨q,h2,h3⟩:=zDC.1 h1
  have:=h.1 q h2
  omega
 ·refine ⟨fun e he => ?_,?_⟩
  ·rcases zDt.1 he with he | he
   ·have:=h.1 e he; omega
   grind
  ·rw [zDL,zE9]
   refine ⟨h.2,by simp,fun x hx y hy q => ?_⟩
   simp only [zDo,zEd,zDx] at hy
   subst hy; subst q
   obtain ⟨e,h2,h3⟩:=zDC.1 hx
   have:=h.1 e h2
   omega
def remG (vis l:List (κ×β×Nat)):Nat:=(l.filter fun x => !(vis.map fun e => e.2.2).contains x.2.2).length
theorem zoS {vis l:List (κ×β×Nat)}{e:κ×β×Nat}(he:e ∈ l) (hn:e.2.2 ∉ vis.map fun e => e.2.2):remG (vis++[e]) l < remG vis l:=by
 have h:(l.filter fun x => !((vis++[e]).map fun e => e.2.2).contains x.2.2)=(l.filter fun x => !(vis.map fun e => e.2.2).contains x.2.2).filter fun x => !(x.2.2 == e.2.2):=by
  rw [zFO]
  grind
 rw [remG,remG,h]
 refine List.length_filter_lt_length_iff_exists.2 ⟨e,zEs.2 ⟨he,?_⟩,by simp⟩
 grind
theorem ziI {vis:List (κ×β×Nat)}{e:κ×β×Nat}(h:(vis.map fun e => e.2.2).Nodup) (hn:e.2.2 ∉ vis.map fun e => e.2.2):((vis++[e]).map fun e => e.2.2).Nodup:=by
 grind
theorem zf1 {n:yB}(h:NmOk n):SCalls Tryz.prog 27 [str n] w0 base H (fun v H' => v=int 0∧H' = H) :=
 (zgN n (by obtain ⟨_,_,_,h⟩:=h; omega)).mono fun v H' ⟨e,h1,h2,h3⟩ => ⟨by grind,h3⟩
theorem zv6 (h:l.length≤63) {t:yB}(ht:t=nmL (l::r)):(t.getD 0 0).toNat=l.length∧t.length=1 + l.length + (nmL r).length∧subl t 0 (1 + (t.getD 0 0).toNat)=UInt8.ofNat l.length::l∧subl t (1 + (t.getD 0 0).toNat) t.length=nmL r:=by
 subst ht
 have h1:=znH (ls:=r) h
 rw [h1]
 refine ⟨Z,zx8,?_,zzn⟩
 grind [zcS,zbK,List.take_left]
theorem zyw (b d:yB) (q:Nat):Rn (b++(d++[0])) q (b.length + d.length) (nmL []) (b.length + (d++[0]).length) 0:=by
 have h:Stands (b++(d++[0])) (b++d).length [0]:=by grind [List.append_assoc,zeC]
 rw [zC6] at h
 have:=Rn.zero (part:=q) h
 rw [zC6]
 exact this
theorem zBF (b d:yB) {n:yB}(h0:0≤u∧u < 16384) (hlt:u.toNat < b.length) (h:Rn b u.toNat u.toNat n nx k) (q:Nat) (hq:b.length≤q):Rn (b++(d++be2 (49152 + u))) q (b.length + d.length) n (b.length + (d++be2 (49152 + u)).length) (k + 1):=by
 have hs:Stands (b++(d++be2 (49152 + u))) (b++d).length (be2 (49152 + u)):=by grind [List.append_assoc,zeC]
 rw [zC6] at hs
 have e:(49152 + u:Int)=((49152 + u.toNat:Nat):Int):=by omega
 have:=Rn.ptr (part:=q) (p:=u.toNat) (b:=b++(d++be2 (49152 + u))) kQ kQ (by rw [← e]; exact hs) (h.app _)
 grind [List.length_append,zam]
abbrev KM:=yB→Option Int
variable {K:KM}
def kOf (T:List (yB×Int×Nat)):KM:=fun q => atG q T
open Classical in
noncomputable def lsOf (n:yB):List yB:=if h:∃ ls,LsOk ls∧n=nmL ls then h.choose else []
theorem zlj (h:LsOk ls):lsOf (nmL ls)=ls:=by
 have h1:∃ ms,LsOk ms∧nmL ls=nmL ms:=⟨ls,h,rfl⟩
 unfold lsOf
 rw [dif_pos h1]
 have h2:=h1.choose_spec
 exact (znG (r:=[]) (q:=[]) h h2.1 (by grind)).1.symm
def nmW (K:KM):List yB→yB
 | [] => [0]
 | l::r => match K (nmL (l::r)) with
  | some u => be2 (49152 + u)
  | none => (UInt8.ofNat l.length::l)++nmW K r
def nmR (K:KM):Nat→List yB→KM
 | _,[] => fun _ => none
 | p,l::r => match K (nmL (l::r)) with
  | some _ => fun _ => none
  | none => fun q => if q=nmL (l::r)∧p < 16384 then some (p:Int) else nmR K (p + (1 + l.length)) r q
noncomputable def kU (K:KM) (p:Nat) (n:yB):KM:=fun q => (nmR K p (lsOf n) q).or (K q)
theorem zzp (h:K (nmL (l::r))=some u):nmW K (l::r)=be2 (49152 + u):=by rw [nmW,h]
theorem zsr (h:K (nmL (l::r))=none):nmW K (l::r)=(UInt8.ofNat l.length::l)++nmW K r:=by rw [nmW,h]
theorem zzq (h:K (nmL (l::r))=some u) (q:yB):nmR K p (l::r) q=none:=by rw [nmR,h]
theorem zss (h:K (nmL (l::r))=none) (q:yB):nmR K p (l::r) q=if q=nmL (l::r)∧p < 16384 then some (p:Int) else nmR K (p + (1 + l.length)) r q:=by rw [nmR,h]
theorem zuq {κ β:Type} [DecidableEq κ] {a q:κ}{v:β}:∀ l:List (κ×β×Nat),(atG a l).isSome→atG q (setG a v l)=if q=a then some v else atG q l
 | [],h => by cases h
 | p::r,h => by
  rw [setG]
  by_cases hp:a=p.1
  ·simp_all [zDi,atG,zDb]
  ·rw [zDb hp,atG,atG]
   rw [atG,zDb hp] at h
   rw [zuq r h]
   grind
theorem zus {κ β:Type} [DecidableEq κ] {q:κ}:∀ l m:List (κ×β×Nat),atG q (l++m)=(atG q l).or (atG q m)
 | [],m => rfl
 | p::r,m => by
  rw [zDr,atG,atG]
  by_cases h:q=p.1
  ·grind
  simp_all [zDb,zus]
theorem zur [DecidableEq κ] {a q:κ}{v:β}{l:List (κ×β×Nat)}:atG q (putG a v l n)=if q=a then some v else atG q l:=by
 unfold putG
 split
 ·grind [zuq]
 ·rename_i h
  rw [zus]
  by_cases hq:q=a
  ·subst hq
   rw [zDi rfl]
   have:atG q l=none:=by simp_all
   rw [this]
   show atG q [(q,v,n)]=_
   rw [atG,zDi rfl]
  simp_all [zDb,atG,zGp]
def UkG (l:List (κ×β×Nat)):Prop:=∀ e ∈ l,∀ e' ∈ l,e.1=e'.1→e=e'
theorem UkG.nil :UkG ([]:List (κ×β×Nat)):=fun _ h => by cases h
theorem UkG.put [DecidableEq κ] {a:κ}{v:β}{l:List (κ×β×Nat)}(h:UkG l) (hn:atG a l=none):UkG (putG a v l n):=by
 rw [zvU hn]
 have hno:∀ e ∈ l,e.1≠a:=by
  intro e he q
  have:∀ m:List (κ×β×Nat),e ∈ m→atG a m≠none:=by
   intro m
   induction m with
   | nil => grind
   | cons p r ih =>
    intro h h9
    rw [atG] at h9
    grind
  grind
 intro e he e' he' q
 rcases zDt.1 he with h1 | h1 <;> rcases zDt.1 he' with h2 | h2
 ·exact h e h1 e' h2 q
 ·grind
 ·grind
 grind
theorem UkG.at_ [DecidableEq κ] {l:List (κ×β×Nat)}(h:UkG l) {e:κ×β×Nat}(he:e ∈ l):atG e.1 l=some e.2.1:=by
 induction l with
 | nil => cases he
 | cons p r ih =>
  rw [atG]
  split
  ·rename_i hp
   rw [h e he p (zDH ..) hp]
  ·rename_i hp
   rcases zDp.1 he with rfl | he
   ·grind
   ·exact ih (fun x hx y hy q => h x (zDF _ hx) y (zDF _ hy) q) he
def InG (V T0 T2:List (yB×Int×Nat)):Prop:=∀ q v,atG q T2=some v↔(∃ e ∈ V,e.1=q∧e.2.1=v)∨((∀ e ∈ V,e.1≠q)∧atG q T0=some v)
theorem InG.nil (T:List (yB×Int×Nat)):InG [] T T:=fun q v => by simp
theorem InG.step {e:yB×Int×Nat}(h:InG V T0 T2) (hF:UkG F) (hV:∀ x ∈ V,x ∈ F) (he:e ∈ F):InG (V++[e]) T0 (putG e.1 e.2.1 T2 n):=fun q v => by
 rw [zur]
 by_cases hq:q=e.1
 ·rw [zDi hq]
  constructor
  ·grind
  ·rintro (⟨x,hx,h1,h2⟩ | ⟨h1,_⟩)
   ·have hxF:x ∈ F:=by grind
    have:=hF x hxF e he (h1.trans hq)
    grind
   grind
 ·rw [zDb hq,h q v]
  constructor
  ·rintro (⟨x,hx,h1,h2⟩ | ⟨h1,h2⟩)
   ·grind
   grind
  ·rintro (⟨x,hx,h1,h2⟩ | ⟨h1,h2⟩)
   ·grind
   ·exact .inr ⟨fun x hx => h1 x (zEp _ hx),h2⟩
theorem InG.done (h:InG V T0 T2) (hF:UkG F) (hV:∀ x ∈ V,x ∈ F) (hA:∀ x ∈ F,x ∈ V) (q:yB):atG q T2=(atG q F).or (atG q T0):=by
 cases hf:atG q F with
 | some v =>
  obtain ⟨e,h1,h2,h3⟩:=zn4 hf
  rw [(h q v).2 (.inl ⟨e,hA e h1,h2,h3⟩)]; rfl
 | none =>
  have hno:∀ e ∈ V,e.1≠q:=fun e he h9 => by
   have:=hF.at_ (hV e he)
   grind
  rw [Option.none_or]
  cases h0:atG q T0 with
  | some v => exact (h q v).2 (.inr ⟨hno,h0⟩)
  | none =>
   cases h2:atG q T2 with
   | none => rfl
   | some v =>
    rcases (h q v).1 h2 with ⟨e,he,h1,_⟩ | ⟨_,h1⟩
    ·grind
    grind
def FnAt (K:KM) (at_:Nat) (ls:List yB) (x:yB) (r:List yB) (F:List (yB×Int×Nat)):Prop:=x++nmW K r=nmW K ls∧∀ q,(atG q F).or (nmR K (at_ + x.length) r q)=nmR K at_ ls q
theorem FnAt.begin (K:KM) (at_:Nat) (ls:List yB):FnAt K at_ ls [] ls []:=⟨rfl,fun q => by rfl⟩
theorem FnAt.keep {at_:Nat}{x:yB}(h:FnAt K at_ ls x (l::r) F) (hK:K (nmL (l::r))=none) (hp:¬ at_ + x.length < 16384):FnAt K at_ ls (x++(UInt8.ofNat l.length::l)) r F:=by
 refine ⟨by rw [zDg,← zsr hK]; exact h.1,fun q => ?_⟩
 rw [← h.2 q,zss hK,zDb (fun h9 => hp h9.2)]
 grind
theorem FnAt.put {at_:Nat}{x:yB}{k:Int}(h:FnAt K at_ ls x (l::r) F) (hK:K (nmL (l::r))=none) (hp:at_ + x.length < 16384) (hF:atG (nmL (l::r)) F=none) (hk:k=((at_ + x.length:Nat):Int)):FnAt K at_ ls (x++(UInt8.ofNat l.length::l)) r (putG (nmL (l::r)) k F n):=by
 refine ⟨by rw [zDg,← zsr hK]; exact h.1,fun q => ?_⟩
 rw [← h.2 q,zss hK,zur]
 grind
theorem FnAt.old {at_:Nat}{x:yB}(h:FnAt K at_ ls x (l::r) F) (hK:K (nmL (l::r))=some u):x++be2 (49152 + u)=nmW K ls∧∀ q,atG q F=nmR K at_ ls q :=
 ⟨by rw [← zzp hK]; exact h.1,fun q => by rw [← h.2 q,zzq hK,zGp]⟩
theorem zuE {at_:Nat}{x:yB}(h:FnAt K at_ ls x [] F):x++[0]=nmW K ls∧∀ q,atG q F=nmR K at_ ls q :=
 ⟨h.1,fun q => by rw [← h.2 q]; show _=(atG q F).or none; grind⟩
theorem zq3 {at_:Nat}{d:List yB}(h:∀ e ∈ F,(nmL r).length < e.1.length):atG (nmL r) F=none:=by
 cases hf:atG (nmL r) F with
 | none => rfl
 | some v =>
  obtain ⟨e,h1,h2,_⟩:=zn4 hf
  grind
theorem zyC :
  SCalls Tryz.prog 66 [] w0 base (H) (fun v H' => ∃ pb mb:Nat,v = pB pb∧H' = (O3 pb mb 0)::[(mb,mapG kyS int ([]:List (yB×Int×Nat)) 0)]::H):=by
 refine zaa (n:=4) Tryz.func66 Z Z Z fun cs => ?_
 refine a6 ?_
 refine zia kyS int zg0 Z ?_
 intro b1
 refine zak (cs:=[.map (some b1),vV 0]) zrr zg0 Z Z Z<|zaU (cs:=#[.map (some b1),vV 0]) Z zg0 Z Z ?_
 intro b2
 refine a2 ?_
 exact zad Tryz.func66 Z Z (⟨_,_,Z,Z⟩)
theorem zu8 {end_:Int}[Inhabited β] (B:β→yB) (at_:Nat) (hB:∀ z,(B z).length=at_) {n:yB}(hnm:NmOk n) (hat:at_≤65535) (hend:end_≤at_) (hpk:PkOk B at_ T) :
  SCalls Tryz.prog 132 [pB pb,vV (at_:Int),str n] w0 base (O3 pb mb end_::[(mb,mapG kyS int T mn)]::H) (fun v H' => ∃ (x:Sl tyB 5) (T' : List (yB×Int×Nat)) (mn' : Nat),(∀ z,∃ k,Rn (B z++x.l) at_ at_ n (at_ + x.l.length) k)∧x.l.length≤n.length∧PkOk (fun z => B z++x.l) (at_ + x.l.length) T'∧(x.l=nmW (kOf T) (lsOf n)∧kOf T' = kU (kOf T) at_ n)∧v = .tuple #[.slice x.A x.l.length x.C,int 0]∧H' = x.s::O3 pb mb ((at_:Int) + (x.l.length:Int))::[(mb,mapG kyS int T' mn')]::H):=by
 obtain ⟨ls,hls,hn,h255⟩:=id hnm
 refine zaa (n:=118) Tryz.func132 Z Z Z fun cs => ?_
 refine a9 ?_
 refine zcN Z zg0 Z Z Z<|a5 ?_
 refine zai (zgs (b:=some mb) Z Z Z) (.inr ⟨_,_,_,Z,Z,Z,Z⟩) Z<|a8 ?_
 refine zca Z (zf1 hnm) ?_
 rintro _ _ ⟨rfl,rfl⟩
 refine a16 ?_
 refine zjn 3 36 [(39,.bool (decide (((at_:Int) < 0)∨(65535 < (at_:Int))))),(0,pB pb),(1,vV (at_:Int)),(2,str n)] ?_
 skip
 refine a2 ?_
 refine zao false Z kP<|a10 ?_
 refine zao false Z (zDl kQ)<|a8 ?_
 refine zia kyS int zg0 Z ?_
 intro b1
 refine a9 ?_
 refine At.nil<|zxK (fun (t:yB) (r:List yB) (d:List yB) (x:Sl tyB 5) (Fr:List (yB×Int×Nat)) (fn:Nat) => [(0,pB pb),(1,vV (at_:Int)),(9,.slice x.A x.l.length x.C),(10,.map (some b1)),(11,str t)]) (fun t r d x Fr fn => x.s::[(b1,mapG kyS int Fr fn)]::O3 pb mb end_::[(mb,mapG kyS int T mn)]::H) (fun t r d x Fr fn => t=nmL r∧ls=d++r∧x.l=flL d∧FrOk at_ d r Fr∧WfG Fr fn∧FnAt (kOf T) at_ ls x.l r Fr∧UkG Fr∧(∀ e ∈ Fr,(nmL r).length < e.1.length)) (fun t r d x Fr fn => r.length) n ls [] Sl.nil [] 0 (⟨hn,Z,Z,FrOk.nil _ _ _,WfG.nil,FnAt.begin _ _ _,UkG.nil,(fun _ h => by cases h)⟩) ⟨Z,Z,Z,Z,Z,trivial⟩ Z ?_
 rintro t r d x Fr fn ⟨ht,hsp,hx,hF,hwf,hfn,huk,hlong⟩ ihL1
 have htp:0 < t.length:=by rw [ht]; exact zi0 r
 have hxt:x.l.length + t.length=n.length:=by rw [hx,ht,hn,hsp,zsu,zC6]
 have hcap:=Own.cap_le x.own
 refine a4 ?_
 obtain hr0 | ⟨l,r2,hr0⟩:r=[]∨∃ l r2,r=l::r2:=by cases r with | nil => exact .inl rfl | cons a q => exact .inr ⟨_,_,rfl⟩
 ·have hz:(t.getD 0 0).toNat=0:=by rw [ht,hr0]; rfl
  refine a2 ?_
  refine zbD (l:=t) 0 Z kQ Z zg0 Z Z Z<|a2 ?_
  refine zao true Z (zDI kQ)<|a3 ?_
  refine zae (cs:=[.int .u8 0]) Z zbO zaF Z Z zg0 Z Z Z ?_
  intro b2
  refine zau tyB (l:=([0]:yB)) Z Z kT ?_
  intro s3 o4
  refine zap (l:=x.l) (news:=[0]) 1 zav Z x.own (o4.rd (i:=0) Z) (by first | omega | (simp only [zC6,zC7,zC8,zam]; omega) | (simp [zam]; done) | (simp [zam]; omega)) zg0 Z Z Z ?_
  intro A5 C6 s7 o8
  refine a5 ?_
  have hend2:∀ z,(∃ k',Rn (B z++(x.l++[0])) at_ at_ n (at_ + (x.l++[0]).length) k')∧∀ e ∈ Fr,0≤e.2.1∧e.2.1 < 16384∧e.2.1.toNat < at_ + (x.l++[0]).length∧∃ nx k,Rn (B z++(x.l++[0])) e.2.1.toNat e.2.1.toNat e.1 nx k:=by
   intro z
   have h9:=zo8 (b:=B z) (d:=d) (r:=r) (w:=[0]) (F:=Fr) (LsOk.left (by rw [← hsp]; exact hls)) (by rw [hB]; exact hF) (by simp [zam]) (fun q hq => by rw [hr0]; exact zyw (B z) (flL d) q)
   rw [← hsp,← hx,← hn,hB] at h9
   exact h9
  have hP8:PkOk (fun z => B z++(x.l++[0])) (at_ + (x.l++[0]).length) Fr:=fun e he => ⟨((hend2 default).2 e he).1,((hend2 default).2 e he).2.1,((hend2 default).2 e he).2.2.1,fun z => ((hend2 z).2 e he).2.2.2⟩
  have hfun:=zuE (by rw [hr0] at hfn; exact hfn)
  have hw8:(x.l++[0]).length≤n.length:=by simp only [zC6,zam,zC7,zC8]; omega
  refine a2 ?_
  refine zjx (Q:=kyS) (tv:=int) 2 0 Z zg0 Z Z Z Z ?_
  intro b9
  refine a2 ?_
  refine zpk [0,3,2,4,5,1] 6 ?_
  refine zpk [0,1,2,3,4] 6 ?_
  refine zcd (fun (vis:List (yB×Int×Nat)) (T2:List (yB×Int×Nat)) (m2:Nat) => [(0,pB pb),(1,vV (at_:Int)),(9,.slice A5 (x.l++[0]).length C6),(98,pB b9)]) (fun vis T2 m2 => [(b9,.mapIter (some b1) fn (stG vis).toArray fn)]::[(b1,mapG kyS int Fr fn)]::s7::O3 pb mb end_::[(mb,mapG kyS int T2 m2)]::H) (fun vis T2 m2 => PkOk (fun z => B z++(x.l++[0])) (at_ + (x.l++[0]).length) T2∧(∀ e ∈ vis,e ∈ Fr)∧(vis.map fun e => e.2.2).Nodup∧InG vis T T2) (fun vis T2 m2 => remG vis Fr) [] T mn (⟨hpk.app _,(fun e h => by cases h),zGo,InG.nil T⟩) ⟨Z,Z,Z,Z,trivial⟩ Z ?_
  rintro vis T2 m2 ⟨hP2,hvis,hnd,hing⟩ ihL2
  refine a2 ?_
  refine zng (Q:=kyS) (tv:=int) (l:=Fr) (vis:=vis) 0 0 1 0 zg0 Z Z Z Z Z hwf.1 Z ?_ ?_
  ·intro hall10
   refine a22 ?_
   refine zpk [2,3,4] 5 ?_
   exact zad Tryz.func132 Z Z (⟨⟨A5,C6,x.l++[0],s7,o8⟩,T2,m2,fun z => (hend2 z).1,hw8,hP2,⟨(by rw [hn,zlj hls]; exact hfun.1),funext fun q => (by show atG q _=_; rw [InG.done hing huk hvis (fun x hx => (zoz hvis hwf.2 hnd hall10).mem_iff.2 hx) q,hfun.2 q,kU,hn,zlj hls]; rfl)⟩,Z,by first | rfl | (simp only [Int.natCast_add]; rfl) | skip⟩)
  ·intro e11 he12 hn13
   refine zlI (H':=[(b9,.mapIter (some b1) fn (stG (vis++[e11])).toArray fn)]::[(b1,mapG kyS int Fr fn)]::s7::O3 pb mb end_::[(mb,mapG kyS int T2 m2)]::H) Z<|a8 ?_
   refine zkM (Q:=kyS) (tv:=int) 0 0 1 0 zg0 Z Z Z Z Z he12 hwf.2 Z<|a12 ?_
   refine zlG (Q:=kyS) (tv:=int) (a:=e11.1) (v:=e11.2.1) (H':=[(b9,.mapIter (some b1) fn (stG (vis++[e11])).toArray fn)]::[(b1,mapG kyS int Fr fn)]::s7::O3 pb mb end_::[(mb,mapG kyS int (putG e11.1 e11.2.1 T2 m2) (putN e11.1 T2 m2))]::H) 4 0 Z Z Z zAF zg0 Z Z Z Z Z Z<|a2 ?_
   refine ihL2 (vis++[e11]) (putG e11.1 e11.2.1 T2 m2) (putN e11.1 T2 m2) (⟨hP2.put (hP8 e11 he12),fun x hx => (zDt.1 hx).elim (hvis x) (fun h9 => by rw [zDx.1 h9]; exact he12),ziI hnd hn13,hing.step huk hvis he12⟩) (zoS he12 hn13) _ ?_
   exact zen
 ·have hlo:1≤l.length∧l.length≤63:=hls l (by rw [hsp,hr0]; simp)
  have hfi:=zv6 (r:=r2) (t:=t) hlo.2 (by rw [ht,hr0])
  have hfi1:=hfi.1; have hfi2:=hfi.2.1; have hfi3:=zDh List.length hfi.2.2.1
  have hfi4:(UInt8.ofNat l.length::l).length=l.length + 1:=rfl
  refine a2 ?_
  refine zbD (l:=t) 0 Z kQ Z zg0 Z Z Z<|a2 ?_
  refine zao false Z (zDl kQ)<|a3 ?_
  obtain hat0 | ⟨u,hat0⟩:atG t T=none∨∃ u,atG t T=some u:=by cases atG t T with | none => exact .inl rfl | some u => exact .inr ⟨u,rfl⟩
  ·have hk0:kOf T (nmL (l::r2))=none:=by rw [← hr0,← ht]; exact hat0
   have hfr0:atG t Fr=none:=by rw [ht]; exact zq3 (at_:=0) (d:=[]) hlong
   refine a6 ?_
   refine zjB (Q:=kyS) (tv:=int) (a:=t) (v:=.tuple #[vV 0,.bool false]) 3 0 Z Z Z zdb zg0 Z Z Z Z Z (by rw [hat0]; rfl)<|a26 ?_
   refine zac Z ?_ ?_
   ·intro hc7
    try dsimp only at hc7
    refine a4 ?_
    refine zlG (Q:=kyS) (tv:=int) (a:=t) (v:=(at_:Int) + (x.l.length:Int)) (H':=x.s::[(b1,mapG kyS int (putG t ((at_:Int) + (x.l.length:Int)) Fr fn) (putN t Fr fn))]::O3 pb mb end_::[(mb,mapG kyS int T mn)]::H) 1 0 Z Z Z zAF zg0 Z Z Z Z Z Z<|a5 ?_
    refine zbD (l:=t) 0 Z kQ Z zg0 Z Z Z ?_
    have hB14:=zeh (t.getD 0 0)
    refine zay (z:=((t.getD 0 0).toNat:Int)) Z Z zg0 Z Z (zcG _)<|a1 ?_
    refine zb7 (l:=t) 0 (1 + ((t.getD 0 0).toNat)) Z (zab Z Z) kQ kQ Z zg0 Z Z ?_
    refine zb2 (l:=x.l) (news:=subl t 0 (1 + ((t.getD 0 0).toNat))) 0 zav Z Z x.own (by first | omega | (simp only [zC6,zC7,zC8,zam]; omega) | (simp [zam]; done) | (simp [zam]; omega)) zg0 Z Z Z ?_
    intro A15 C16 s17 o18
    refine a6 ?_
    refine zbD (l:=t) 0 Z kQ Z zg0 Z Z Z ?_
    have hB19:=zeh (t.getD 0 0)
    refine zay (z:=((t.getD 0 0).toNat:Int)) Z Z zg0 Z Z (zcG _)<|a1 ?_
    refine zb7 (l:=t) (1 + ((t.getD 0 0).toNat)) t.length (zab Z Z) Z kQ kQ Z zg0 Z Z<|a2 ?_
    refine ihL1 (subl t (1 + ((t.getD 0 0).toNat)) t.length) r2 (d++[l]) (⟨A15,C16,x.l++(subl t 0 (1 + ((t.getD 0 0).toNat))),s17,o18⟩) (putG t ((at_:Int) + (x.l.length:Int)) Fr fn) (putN t Fr fn) (⟨hfi.2.2.2,by rw [hsp,hr0]; simp,(show x.l++subl t 0 (1 + (t.getD 0 0).toNat)=flL (d++[l]) by rw [hfi.2.2.1,hx,zf7]),FrOk.step (l:=l) (zk5 (P:=fun q (u:Int) => ∃ d1 d2,d=d1++d2∧q=flL d2++nmL (l::r2)∧u=((at_ + (flL d1).length:Nat):Int)∧u < 16384) (by rw [hr0] at hF; exact hF) ⟨d,[],by simp,by rw [ht,hr0]; rfl,by rw [hx]; omega,by omega⟩),hwf.put,(by dsimp only; rw [hfi.2.2.1]; have h9:=FnAt.put (n:=fn) (k:=(at_:Int) + (x.l.length:Int)) (by rw [hr0] at hfn; exact hfn) hk0 kQ (by rw [← hr0,← ht]; exact hfr0) kQ; rw [← hr0,← ht] at h9; exact h9),UkG.put huk hfr0,zk5 (P:=fun (q:yB) (_:Int) => (nmL r2).length < q.length) (fun e he => by have h9:=hlong e he; rw [← ht] at h9; omega) kQ⟩) (by rw [hr0]; simp) _ ?_
    exact zen
   ·intro hc7
    try dsimp only at hc7
    refine a5 ?_
    refine zbD (l:=t) 0 Z kQ Z zg0 Z Z Z ?_
    have hB20:=zeh (t.getD 0 0)
    refine zay (z:=((t.getD 0 0).toNat:Int)) Z Z zg0 Z Z (zcG _)<|a1 ?_
    refine zb7 (l:=t) 0 (1 + ((t.getD 0 0).toNat)) Z (zab Z Z) kQ kQ Z zg0 Z Z ?_
    refine zb2 (l:=x.l) (news:=subl t 0 (1 + ((t.getD 0 0).toNat))) 0 zav Z Z x.own (by first | omega | (simp only [zC6,zC7,zC8,zam]; omega) | (simp [zam]; done) | (simp [zam]; omega)) zg0 Z Z Z ?_
    intro A21 C22 s23 o24
    refine a6 ?_
    refine zbD (l:=t) 0 Z kQ Z zg0 Z Z Z ?_
    have hB25:=zeh (t.getD 0 0)
    refine zay (z:=((t.getD 0 0).toNat:Int)) Z Z zg0 Z Z (zcG _)<|a1 ?_
    refine zb7 (l:=t) (1 + ((t.getD 0 0).toNat)) t.length (zab Z Z) Z kQ kQ Z zg0 Z Z<|a2 ?_
    refine ihL1 (subl t (1 + ((t.getD 0 0).toNat)) t.length) r2 (d++[l]) (⟨A21,C22,x.l++(subl t 0 (1 + ((t.getD 0 0).toNat))),s23,o24⟩) Fr fn (⟨hfi.2.2.2,by rw [hsp,hr0]; simp,(show x.l++subl t 0 (1 + (t.getD 0 0).toNat)=flL (d++[l]) by rw [hfi.2.2.1,hx,zf7]),FrOk.step (l:=l) (by rw [hr0] at hF; exact hF),hwf,(by dsimp only; rw [hfi.2.2.1]; exact FnAt.keep (by rw [hr0] at hfn; exact hfn) hk0 kQ),huk,(fun e he => by have h9:=hlong e he; rw [← ht] at h9; omega)⟩) (by rw [hr0]; simp) _ ?_
    exact zen
  ·obtain ⟨e9,he9,he1,he2⟩:=zn4 hat0
   obtain ⟨hu0,hu1,hu2,hu3⟩:=hpk e9 he9
   rw [he2] at hu0 hu1 hu2 hu3; rw [he1] at hu3
   refine a6 ?_
   refine zjB (Q:=kyS) (tv:=int) (a:=t) (v:=.tuple #[vV u,.bool true]) 3 0 Z Z Z zdb zg0 Z Z Z Z Z (by rw [hat0]; rfl)<|a14 ?_
   refine zdp (z:=49152 + u) zg0 Z Z Z (zhK 14 3 u.toNat kE kQ kQ kQ) ?_
   refine zca Z (zd3 (49152 + u) kQ kQ) ?_
   rintro _ _ ⟨A26,C27,s28,o29,rfl,rfl⟩
   refine a10 ?_
   refine zap (l:=x.l) (news:=(be2 (49152 + u))) 1 zav Z x.own (o29.rd (i:=0) Z) (by first | omega | (simp only [zC6,zC7,zC8,zam]; omega) | (simp [zam]; done) | (simp [zam]; omega)) zg0 Z Z Z ?_
   intro A30 C31 s32 o33
   refine a5 ?_
   have hend2:∀ z,(∃ k',Rn (B z++(x.l++(be2 (49152 + u)))) at_ at_ n (at_ + (x.l++(be2 (49152 + u))).length) k')∧∀ e ∈ Fr,0≤e.2.1∧e.2.1 < 16384∧e.2.1.toNat < at_ + (x.l++(be2 (49152 + u))).length∧∃ nx k,Rn (B z++(x.l++(be2 (49152 + u)))) e.2.1.toNat e.2.1.toNat e.1 nx k:=by
    intro z
    obtain ⟨nx9,k9,hu4⟩:=hu3 z; have h9:=zo8 (b:=B z) (d:=d) (r:=r) (w:=(be2 (49152 + u))) (F:=Fr) (LsOk.left (by rw [← hsp]; exact hls)) (by rw [hB]; exact hF) (by simp [zam]) (fun q hq => by rw [← ht]; exact zBF (B z) (flL d) ⟨hu0,hu1⟩ (by rw [hB]; exact hu2) hu4 q hq)
    rw [← hsp,← hx,← hn,hB] at h9
    exact h9
   have hP8:PkOk (fun z => B z++(x.l++(be2 (49152 + u)))) (at_ + (x.l++(be2 (49152 + u))).length) Fr:=fun e he => ⟨((hend2 default).2 e he).1,((hend2 default).2 e he).2.1,((hend2 default).2 e he).2.2.1,fun z => ((hend2 z).2 e he).2.2.2⟩
   have hfun:=FnAt.old (u:=u) (by rw [hr0] at hfn; exact hfn) (by rw [← hr0,← ht]; exact hat0)
   have hw8:(x.l++(be2 (49152 + u))).length≤n.length:=by have:=zi0 r2; simp only [zC6,zam,zC7,zC8]; omega
   refine a2 ?_
   refine zjx (Q:=kyS) (tv:=int) 2 0 Z zg0 Z Z Z Z ?_
   intro b34
   refine a2 ?_
   refine zpk [0,3,2,4,5,1] 6 ?_
   refine zpk [0,1,2,3,4] 6 ?_
   refine zcd (fun (vis:List (yB×Int×Nat)) (T2:List (yB×Int×Nat)) (m2:Nat) => [(0,pB pb),(1,vV (at_:Int)),(9,.slice A30 (x.l++(be2 (49152 + u))).length C31),(98,pB b34)]) (fun vis T2 m2 => [(b34,.mapIter (some b1) fn (stG vis).toArray fn)]::[(b1,mapG kyS int Fr fn)]::s32::O3 pb mb end_::[(mb,mapG kyS int T2 m2)]::H) (fun vis T2 m2 => PkOk (fun z => B z++(x.l++(be2 (49152 + u)))) (at_ + (x.l++(be2 (49152 + u))).length) T2∧(∀ e ∈ vis,e ∈ Fr)∧(vis.map fun e => e.2.2).Nodup∧InG vis T T2) (fun vis T2 m2 => remG vis Fr) [] T mn (⟨hpk.app _,(fun e h => by cases h),zGo,InG.nil T⟩) ⟨Z,Z,Z,Z,trivial⟩ Z ?_
   rintro vis T2 m2 ⟨hP2,hvis,hnd,hing⟩ ihL2
   refine a2 ?_
   refine zng (Q:=kyS) (tv:=int) (l:=Fr) (vis:=vis) 0 0 1 0 zg0 Z Z Z Z Z hwf.1 Z ?_ ?_
   ·intro hall35
    refine a22 ?_
    refine zpk [2,3,4] 5 ?_
    exact zad Tryz.func132 Z Z (⟨⟨A30,C31,x.l++(be2 (49152 + u)),s32,o33⟩,T2,m2,fun z => (hend2 z).1,hw8,hP2,⟨(by rw [hn,zlj hls]; exact hfun.1),funext fun q => (by show atG q _=_; rw [InG.done hing huk hvis (fun x hx => (zoz hvis hwf.2 hnd hall35).mem_iff.2 hx) q,hfun.2 q,kU,hn,zlj hls]; rfl)⟩,Z,by first | rfl | (simp only [Int.natCast_add]; rfl) | skip⟩)
   ·intro e36 he37 hn38
    refine zlI (H':=[(b34,.mapIter (some b1) fn (stG (vis++[e36])).toArray fn)]::[(b1,mapG kyS int Fr fn)]::s32::O3 pb mb end_::[(mb,mapG kyS int T2 m2)]::H) Z<|a8 ?_
    refine zkM (Q:=kyS) (tv:=int) 0 0 1 0 zg0 Z Z Z Z Z he37 hwf.2 Z<|a12 ?_
    refine zlG (Q:=kyS) (tv:=int) (a:=e36.1) (v:=e36.2.1) (H':=[(b34,.mapIter (some b1) fn (stG (vis++[e36])).toArray fn)]::[(b1,mapG kyS int Fr fn)]::s32::O3 pb mb end_::[(mb,mapG kyS int (putG e36.1 e36.2.1 T2 m2) (putN e36.1 T2 m2))]::H) 4 0 Z Z Z zAF zg0 Z Z Z Z Z Z<|a2 ?_
    refine ihL2 (vis++[e36]) (putG e36.1 e36.2.1 T2 m2) (putN e36.1 T2 m2) (⟨hP2.put (hP8 e36 he37),fun x hx => (zDt.1 hx).elim (hvis x) (fun h9 => by rw [zDx.1 h9]; exact he37),ziI hnd hn38,hing.step huk hvis he37⟩) (zoS he37 hn38) _ ?_
    exact zen
theorem zyM {ps:List (Int×Bool×Bool)}{s:yB}{l m:List (yB×Bool)}(h:Sp ps s l) (h' : Sp ps s m):l=m:=by
 induction h generalizing m with
 | nil => exact (zoI.1 h').2.symm
 | size hz h ih =>
  obtain ⟨a,r,l',h1,h2,h3,rfl⟩:=zkU.1 h'
  obtain ⟨rfl,rfl⟩:=zGi h1 kQ
  rw [ih h3]
 | name hn h ih =>
  obtain ⟨n,r,l',h1,h2,h3,rfl⟩:=zkW.1 h'
  obtain ⟨rfl,rfl⟩:=zmi hn h2 h1
  rw [ih h3]
 | rest hs => exact (zkV.1 h').2.symm
theorem zwW {t:Int}{s:yB}{l m:List (yB×Bool)}(h:DtP t s l) (h' : DtP t s m):l=m:=by
 unfold DtP at h h'
 cases hp:ptsF t with
 | none => rw [hp] at h h'; exact h.trans h'.symm
 | some ps => rw [hp] at h h'; exact zyM h h'
open Classical in
noncomputable def zmf (t:Int) (s:yB):List (yB×Bool):=if h:∃ l,DtP t s l then h.choose else []
theorem zoY {t:Int}{s:yB}{l:List (yB×Bool)}(h:DtP t s l):zmf t s=l:=by
 have h1:∃ l,DtP t s l:=⟨l,h⟩
 unfold zmf
 rw [dif_pos h1]
 exact zwW h1.choose_spec h
noncomputable def dpW (K:KM):Nat→List (yB×Bool)→Option (yB×KM)
 | _,[] => some ([],K)
 | p,(s,false)::l => (dpW K (p + s.length) l).map fun r => (s++r.1,r.2)
 | p,(n,true)::l => if p≤65535 then (dpW (kU K p n) (p + (nmW K (lsOf n)).length) l).map fun r => (nmW K (lsOf n)++r.1,r.2) else none
def pre2 (w:yB) (o:Option (yB×KM)):Option (yB×KM):=o.map fun r => (w++r.1,r.2)
theorem zvX (o:Option (yB×KM)):pre2 [] o=o:=by cases o <;> rfl
theorem zmc (a b:yB) (o:Option (yB×KM)):pre2 a (pre2 b o)=pre2 (a++b) o:=by cases o <;> simp [pre2]
theorem ztP {s:yB}{l:List (yB×Bool)}:dpW K p ((s,false)::l)=pre2 s (dpW K (p + s.length) l):=by rw [dpW]; rfl
theorem zw3 {n:yB}{l:List (yB×Bool)}(h:p≤65535):dpW K p ((n,true)::l)=pre2 (nmW K (lsOf n)) (dpW (kU K p n) (p + (nmW K (lsOf n)).length) l):=by rw [dpW,zDi h]; rfl
theorem zw4 {n:yB}{l:List (yB×Bool)}(h:65535 < p):dpW K p ((n,true)::l)=none:=by rw [dpW,zDb kQ]
theorem zAm :dpW K p []=some ([],K):=by rw [dpW]
theorem zsf (w:yB):pre2 w none=none:=rfl
theorem zzl:NmOk [0]:=⟨[],LsOk.nil,rfl,by decide⟩
theorem zlO {end_:Int} :
  SCalls Tryz.prog 132 [pB pb,vV (-1),str [0]] w0 base (O3 pb mb end_::[(mb,mapG kyS int T mn)]::H) (fun v H' => v = .tuple #[.slice none 0 0,int 2]∧H' = (O3 pb mb end_)::[(mb,mapG kyS int T mn)]::H):=by
 refine zaa (n:=118) Tryz.func132 Z Z Z fun cs => ?_
 refine a9 ?_
 refine zcN Z zg0 Z Z Z<|a5 ?_
 refine zai (zgs (b:=some mb) Z Z Z) (.inr ⟨_,_,_,Z,Z,Z,Z⟩) Z<|a8 ?_
 refine zca Z (zf1 zzl) ?_
 rintro _ _ ⟨rfl,rfl⟩
 refine a27 ?_
 exact zad Tryz.func132 Z Z (⟨Z,Z⟩)
theorem zp1 {end_:Int}(k:Nat) {n:yB}(hnm:NmOk n) (hat:65535 < k) :
  SCalls Tryz.prog 132 [pB pb,vV (k:Int),str n] w0 base (O3 pb mb end_::[(mb,mapG kyS int T mn)]::H) (fun v H' => v = .tuple #[.slice none 0 0,int 2]∧H' = (O3 pb mb end_)::[(mb,mapG kyS int T mn)]::H):=by
 refine zaa (n:=118) Tryz.func132 Z Z Z fun cs => ?_
 refine a9 ?_
 refine zcN Z zg0 Z Z Z<|a5 ?_
 refine zai (zgs (b:=some mb) Z Z Z) (.inr ⟨_,_,_,Z,Z,Z,Z⟩) Z<|a8 ?_
 refine zca Z (zf1 hnm) ?_
 rintro _ _ ⟨rfl,rfl⟩
 refine a16 ?_
 refine zjn 3 36 [(39,.bool (decide (((k:Int) < 0)∨(65535 < (k:Int))))),(0,pB pb),(1,vV (k:Int)),(2,str n)] ?_
 skip
 refine a2 ?_
 refine zao true Z kP<|a5 ?_
 exact zad Tryz.func132 Z Z (⟨Z,Z⟩)
theorem ziz {end_ at_:Int}[Inhabited β] (B:β→yB) (k:Nat) (hB:∀ z,(B z).length=k) {n:yB}(hat:at_=(k:Int)) (hnm:NmOk n) (hend:end_≤k) (hpk:PkOk B k T) :
  SCalls Tryz.prog 132 [pB pb,int at_,str n] w0 base (O3 pb mb end_::[(mb,mapG kyS int T mn)]::H) (fun v H' => (∃ (x:Sl tyB 5) (T' : List (yB×Int×Nat)) (mn' : Nat),k≤65535∧(∀ z,∃ k9,Rn (B z++x.l) k k n (k + x.l.length) k9)∧x.l.length≤n.length∧PkOk (fun z => B z++x.l) (k + x.l.length) T'∧(x.l=nmW (kOf T) (lsOf n)∧kOf T' = kU (kOf T) k n)∧v = .tuple #[.slice x.A x.l.length x.C,int 0]∧H' = x.s::O3 pb mb ((k:Int) + (x.l.length:Int))::[(mb,mapG kyS int T' mn')]::H) ∨
   (65535 < k∧v = .tuple #[.slice none 0 0,int 2]∧H' = (O3 pb mb end_)::[(mb,mapG kyS int T mn)]::H)):=by
 subst hat
 rcases zEw 65535 k with h | h
 ·exact (zp1 k hnm h).mono fun v H' ⟨h1,h2⟩ => .inr ⟨h,h1,h2⟩
 ·exact (zu8 B k hB hnm h hend hpk).mono fun v H' ⟨x,T',m',q⟩ => .inl ⟨x,T',m',h,q⟩
theorem zrW {end_ t at_:Int}[Inhabited β] (B:β→yB) (n0:Nat) (hB:∀ z,(B z).length=n0) {s:yB}(hat:at_=(n0:Int)) (hD:DOk t s) (hb:n0≤200000) (hend:end_≤n0) (hpk:PkOk B n0 T) :
  SCalls Tryz.prog 135 [pB pb,vV at_,vV t,str s] w0 base (O3 pb mb end_::[(mb,mapG kyS int T mn)]::H) (fun v H' => (∃ (x:Sl tyB 5) (T' : List (yB×Int×Nat)) (mn' : Nat) (end' : Int),(∀ z,RdD (B z++x.l) n0 x.l.length t s)∧x.l.length≤s.length∧PkOk (fun z => B z++x.l) (n0 + x.l.length) T'∧end'≤(n0:Int) + (x.l.length:Int)∧dpW (kOf T) n0 (zmf t s)=some (x.l,kOf T')∧v = .tuple #[.slice x.A x.l.length x.C,int 0]∧H' = x.s::O3 pb mb end'::[(mb,mapG kyS int T' mn')]::H)∨(∃ e:Int,e≠0∧dpW (kOf T) n0 (zmf t s)=none∧v = .tuple #[.slice none 0 0,int e]∧H' = H)):=by
 have hD2:=hD.2.1
 refine zaa (n:=72) Tryz.func135 Z Z Z fun cs => ?_
 refine a9 ?_
 refine zca Z zlO ?_
 rintro _ _ ⟨rfl,rfl⟩
 refine a18 ?_
 refine zca Z (zki hD) ?_
 rintro _ _ ⟨rfl,rfl⟩
 refine a13 ?_
 refine zca Z (zrN hD) ?_
 rintro _ _ ⟨⟨A1,C2,l3,s4,o5⟩,hsp1,rfl,rfl⟩
 replace hsp1:DtP t s l3:=hsp1
 refine a18 ?_
 refine At.nil<|zpk [0,2,3,1] 4 ?_
 refine zg8 (fun (j:Nat) (x:Sl tyB 5) (T2:List (yB×Int×Nat)) (m2:Nat) (e2:Int) => [(0,pB pb),(1,vV at_),(15,.slice x.A x.l.length x.C),(40,.slice A1 l3.length C2),(41,vV (l3.length:Int)),(42,vV (j:Int))]) (fun j x T2 m2 e2 => x.s::O3 pb mb e2::[(mb,mapG kyS int T2 m2)]::s4::H) (fun j x T2 m2 e2 => j≤l3.length∧DwT B n0 x.l t s (l3.drop j)∧PkOk (fun z => B z++x.l) (n0 + x.l.length) T2∧e2≤(n0:Int) + (x.l.length:Int)∧dpW (kOf T) n0 l3=pre2 x.l (dpW (kOf T2) (n0 + x.l.length) (l3.drop j))) (fun j x T2 m2 e2 => l3.length - j) 0 Sl.nil T mn end_ (⟨zDq _,DwT.begin hsp1,(by have h9:=hpk.app []; exact h9),by have h9:(Sl.nil:Sl tyB 5).l.length=0:=Z; rw [h9]; omega,(zvX _).symm⟩) ⟨Z,Z,Z,Z,Z,Z,trivial⟩ Z ?_
 rintro j x T2 m2 e2 ⟨hj,hdw,hpk2,hend2,hfn2⟩ ihL1
 have hwl:=hdw.wlen
 have hD2:=hD.2.1
 have hcap:=Own.cap_le x.own
 have hBx:∀ z,(B z++x.l).length=n0 + x.l.length:=fun z => by rw [zC6,hB]
 have hcap2:=Own.cap_le o5
 have hcap3:=Own.le_cap o5
 refine a5 ?_
 refine zac Z ?_ ?_
 ·intro hc3
  try dsimp only at hc3
  refine a4 ?_
  have hjl:j < l3.length:=by omega
  have hdr0:=zbS (d:=(([],false):yB×Bool)) hjl
  obtain ⟨q9,z9,hg⟩:∃ q z,(l3.getD j (([],false):yB×Bool))=(q,z):=⟨_,_,rfl⟩
  have hg1:(l3.getD j (([],false):yB×Bool)).1=q9:=by rw [hg]
  have hle9:=DwT.lens (by rw [hdr0,hg] at hdw; exact hdw)
  cases z9 with
  | false =>
  ·have hb1:(l3.getD j (([],false):yB×Bool)).2=false:=by rw [hg]
   have hdr:l3.drop j=((l3.getD j (([],false):yB×Bool)).1,false)::l3.drop (j + 1):=by rw [hdr0,hg]
   have hq9:(l3.getD j (([],false):yB×Bool)).1.length≤s.length:=by rw [hg]; exact hle9.1
   refine a1 ?_
   refine zah j (o5.rd (i:=3) Z) Z zfW zg0 Z Z Z Z kQ ?_
   refine zaM (n:=0) (o5.rd (i:=3) Z) (getD_some (([],false):yB×Bool) kQ) Z zlX zg0 Z Z<|AtL.alloc zdA (cs:=#[str [],.bool false]) Z zg0 Z ?_
   intro b6
   refine a9 ?_
   refine zao true Z (by rw [hb1]; rfl)<|a5 ?_
   refine zb2 (l:=x.l) (news:=(l3.getD j (([],false):yB×Bool)).1) 1 zav Z Z x.own (by first | omega | (simp only [zC6,zC7,zC8]; omega) | (simp; done) | (simp; omega)) zg0 Z Z Z ?_
   intro A7 C8 s9 o10
   refine a7 ?_
   refine zpk [1,2,3,4] 5 ?_
   refine ihL1 (j + 1) (⟨A7,C8,x.l++((l3.getD j (([],false):yB×Bool)).1),s9,o10⟩) T2 m2 e2 (⟨by omega,(by dsimp only; exact DwT.plain hB (by rw [← hdr]; exact hdw)),(by have h9:=hpk2.app ((l3.getD j (([],false):yB×Bool)).1); simp only [zDg,zD3] at h9; simp only [zC6]; exact h9),by simp only [zC6]; omega,(by dsimp only; rw [hfn2,hdr,ztP,zmc,List.length_append,Nat.add_assoc])⟩) kQ _ ?_
   exact zen
  | true =>
  ·have hb1:(l3.getD j (([],false):yB×Bool)).2=true:=by rw [hg]
   have hdr:l3.drop j=((l3.getD j (([],false):yB×Bool)).1,true)::l3.drop (j + 1):=by rw [hdr0,hg]
   have hnm9:NmOk (l3.getD j (([],false):yB×Bool)).1:=by rw [hg]; exact hle9.2 rfl
   have hq9:(l3.getD j (([],false):yB×Bool)).1.length≤255:=by obtain ⟨_,_,_,h9⟩:=hnm9; exact h9
   refine a1 ?_
   refine zah j (o5.rd (i:=3) Z) Z zfW zg0 Z Z Z Z kQ ?_
   refine zaM (n:=0) (o5.rd (i:=3) Z) (getD_some (([],false):yB×Bool) kQ) Z zlX zg0 Z Z<|AtL.alloc zdA (cs:=#[str [],.bool false]) Z zg0 Z ?_
   intro b11
   refine a9 ?_
   refine zao false Z (by rw [hb1]; rfl)<|a10 ?_
   refine zpk [2,3,0,1,4] 5 ?_
   refine zca Z (ziz (fun z => B z++x.l) (n0 + x.l.length) hBx kQ hnm9 kQ hpk2) ?_
   rintro _ _ (⟨⟨A12,C13,l14,s15,o16⟩,Tp17,mp18,hpn190,hpn191,hpn192,hpn193,hpn196,rfl,rfl⟩ | ⟨hpn194,rfl,rfl⟩)
   ·replace hpn191:∀ z,∃ k9,Rn (((fun z => B z++x.l)) z++l14) (n0 + x.l.length) (n0 + x.l.length) ((l3.getD j (([],false):yB×Bool)).1) ((n0 + x.l.length) + l14.length) k9:=hpn191
    replace hpn192:l14.length≤((l3.getD j (([],false):yB×Bool)).1).length:=hpn192
    replace hpn193:PkOk (fun z => ((fun z => B z++x.l)) z++l14) ((n0 + x.l.length) + l14.length) Tp17:=hpn193
    replace hpn196:l14=nmW (kOf T2) (lsOf ((l3.getD j (([],false):yB×Bool)).1))∧kOf Tp17=kU (kOf T2) (n0 + x.l.length) ((l3.getD j (([],false):yB×Bool)).1):=hpn196
    refine a17 ?_
    refine zap (l:=x.l) (news:=l14) 4 zav Z x.own (o16.rd (i:=0) Z) (by first | omega | (simp only [zC6,zC7,zC8]; omega) | (simp; done) | (simp; omega)) zg0 Z Z Z ?_
    intro A20 C21 s22 o23
    refine a7 ?_
    refine zpk [4,1,2,5] 6 ?_
    refine ihL1 (j + 1) (⟨A20,C21,x.l++l14,s22,o23⟩) Tp17 mp18 ((((n0 + x.l.length):Nat):Int) + (l14.length:Int)) (⟨by omega,(by dsimp only; exact DwT.name hpn192 (by rw [← hdr]; exact hdw) hpn191),(by have h9:=hpn193; simp only [zDg,zD3] at h9; simp only [zC6]; exact h9),by simp only [zC6]; omega,(by dsimp only; rw [hfn2,hdr,zw3 hpn190,zmc,← hpn196.1,← hpn196.2,List.length_append,Nat.add_assoc])⟩) kQ _ ?_
    exact zen
   ·refine a19 ?_
    refine zpk [] 5 ?_
    exact zad Tryz.func135 Z Z (.inr ⟨_,by decide,(by rw [zoY hsp1,hfn2,hdr,zw4 (by assumption),zsf]),Z,Z⟩)
 ·intro hc3
  try dsimp only at hc3
  refine a7 ?_
  have ho9:=DwT.over hB hD.2.1 (by have h9:=hdw; rw [zDn kQ] at h9; exact h9)
  refine zpk [0,1,2] 4 ?_
  exact zad Tryz.func135 Z Z (.inl ⟨x,T2,m2,e2,ho9.2,ho9.1,hpk2,hend2,(by rw [zoY hsp1,hfn2,zDn kQ,zAm]; simp [pre2]),Z,Z⟩)
theorem zf0 (n m:Int) :
  SCalls Tryz.prog 80 [vV n,vV m] w0 base (H) (fun v H' => v = .bool (decide (0≤n∧n≤m))∧H' = H):=by
 refine zaa (n:=12) Tryz.func80 Z Z Z fun cs => ?_
 refine a9 ?_
 refine zjn 4 7 [(11,.bool (decide ((0≤(n:Int))∧((n:Int)≤m))))] ?_
 skip
 refine a2 ?_
 exact zad Tryz.func80 Z Z (⟨by first | rfl | simp [zc3],Z⟩)
theorem ziO {n m:Int}(h:0≤n∧n≤m):SCalls Tryz.prog 80 [int n,int m] w0 base H (fun v H' => v = .bool true∧H' = H):=by
 grind [zf0,decide_eq_true]
theorem zoP {end_:Int} :
  SCalls Tryz.prog 131 [pB pb] w0 base (O3 pb mb end_::[(mb,mapG kyS int T mn)]::H) (fun v H' => v = .bool false∧H' = (O3 pb mb end_)::[(mb,mapG kyS int T mn)]::H):=by
 refine zaa (n:=12) Tryz.func131 Z Z Z fun cs => ?_
 refine a7 ?_
 refine zca Z zlO ?_
 rintro _ _ ⟨rfl,rfl⟩
 refine a12 ?_
 exact zad Tryz.func131 Z Z (⟨Z,Z⟩)
theorem zxo (l:List Int) (j:Nat):((l.take j).flatMap be2).length=2 * (l.take j).length:=by
 generalize l.take j=m
 induction m with
 | nil => rfl
 | cons a r ih => grind [List.length_append,zam,List.length_cons]
theorem zrf {l:List Int}(h:Rd tyI w0 base H A C l) (hl:∀ n ∈ l,0≤n∧n≤65535) (h4:l.length≤4) :
  SCalls Tryz.prog 133 [.slice A l.length C] w0 base (H) (fun v H' => ∃ x:Sl tyB 5,x.l=l.flatMap be2∧v = .slice x.A x.l.length x.C∧H' = x.s::H):=by
 have hle0:=h.le
 have hcap0:=h.cap
 refine zaa (n:=24) Tryz.func133 Z Z Z fun cs => ?_
 refine a16 ?_
 refine At.nil<|zcC (fun (j:Nat) (x:Sl tyB 5) => [(3,.slice x.A x.l.length x.C),(8,.slice A l.length C),(9,vV (l.length:Int)),(10,vV (j:Int))]) (fun j x => x.s::H) (fun j x => j≤l.length∧x.l=(l.take j).flatMap be2) (fun j x => l.length - j) 0 Sl.nil (⟨zDq _,Z⟩) ⟨Z,Z,Z,Z,trivial⟩ Z ?_
 rintro j x ⟨hj,hx⟩ ihL1
 have hxl:=zDh List.length hx
 have hcap:=Own.cap_le x.own
 rw [zxo] at hxl
 refine a5 ?_
 refine zac Z ?_ ?_
 ·intro hc1
  try dsimp only at hc1
  refine a5 ?_
  refine zah j (Rd.skip 1 h) Z zbp zg0 Z Z Z Z kQ ?_
  refine zax (v:=vV (l.getD j 0)) zcl zg0 Z Z (zaL (Rd.skip 1 h) (getD_some 0 kQ) Z)<|a3 ?_
  have hn9:=hl _ (zaA (l:=l) (i:=j) (d:=0) kQ); have htl:(l.take j).length≤4:=by rw [zDs]; omega
  refine a2 ?_
  refine zca Z (zd3 (l.getD j 0) kQ kQ) ?_
  rintro _ _ ⟨A1,C2,s3,o4,rfl,rfl⟩
  refine a9 ?_
  refine zap (l:=x.l) (news:=(be2 (l.getD j 0))) 1 zav Z x.own (o4.rd (i:=0) Z) (by first | omega | (simp only [zC6,zC7,zC8,zam]; omega) | (simp [zam]; done) | (simp [zam]; omega)) zg0 Z Z Z ?_
  intro A5 C6 s7 o8
  refine a7 ?_
  refine zpk [1] 2 ?_
  refine ihL1 (j + 1) (⟨A5,C6,x.l++(be2 (l.getD j 0)),s7,o8⟩) (⟨by omega,by dsimp only; rw [hx,List.take_succ_eq_append_getElem kQ,List.flatMap_append]; simp [List.getD,show j < l.length by omega]⟩) kQ _ ?_
  exact zen
 ·intro hc1
  try dsimp only at hc1
  refine a6 ?_
  exact zad Tryz.func133 Z Z (⟨x,by rw [hx,zDc kQ],Z,Z⟩)
theorem zBl {a:Int}(h:Rd tyI w0 base H A C [a]) (ha:0≤a∧a≤65535):SCalls Tryz.prog 133 [.slice A 1 C] w0 base H (fun v H' => ∃ x:Sl tyB 5,x.l=be2 a∧v = .slice x.A x.l.length x.C∧H' = x.s::H) :=
 (zrf h (fun n hn => by grind) kY).mono fun v H' ⟨x,h1,h2⟩ => ⟨x,by grind,h2⟩
theorem zBk {a b:Int}(h:Rd tyI w0 base H A C [a,b]) (ha:0≤a∧a≤65535) (hb:0≤b∧b≤65535):SCalls Tryz.prog 133 [.slice A 2 C] w0 base H (fun v H' => ∃ x:Sl tyB 5,x.l=be2 a++be2 b∧v = .slice x.A x.l.length x.C∧H' = x.s::H) :=
 (zrf h (fun n hn => by grind) kY).mono fun v H' ⟨x,h1,h2⟩ => ⟨x,by grind,h2⟩
theorem zeT (x:Rc5) (hx:x.1.length≤4398046511104∧x.2.2.2.2.length≤4398046511104) :
  SCalls Tryz.prog 29 [.agg #[str x.1,vV x.2.1,vV x.2.2.1,vV x.2.2.2.1,str x.2.2.2.2]] w0 base (H) (fun v H' => ∃ e:Int,(e=0↔ROk x)∧v=int e∧H' = H):=by
 refine zaa (n:=31) Tryz.func29 Z Z Z fun cs => ?_
 refine a2 ?_
 refine zaU (cs:=#[str x.1,vV x.2.1,vV x.2.2.1,vV x.2.2.2.1,str x.2.2.2.2]) Z zg0 Z Z ?_
 intro b1
 refine a7 ?_
 refine zca Z (zgN x.1 kQ) ?_
 rintro _ _ ⟨e2,hck3,rfl,rfl⟩
 refine a7 ?_
 refine zaT Z ?_ ?_
 ·intro hc1
  have hc1:¬ ((e2:Int)=0):=zDm (zat hc1)
  refine a5 ?_
  refine zpk [] 1 ?_
  exact zad Tryz.func29 Z Z (⟨_,⟨fun h => absurd h hc1,fun h => absurd (hck3.2 h.1) hc1⟩,Z,Z⟩)
 ·intro hc1
  have hc1:(e2:Int)=0:=zDf (zas hc1)
  refine a6 ?_
  refine zca Z (zf0 x.2.1 65535) ?_
  rintro _ _ ⟨rfl,rfl⟩
  refine a2 ?_
  refine zaI 5 (E':=[(19,.bool (decide ((¬ (0≤x.2.1∧x.2.1≤65535))∨(¬ (0≤x.2.2.1∧x.2.2.1≤65535))))),(1,pB b1)]) (fun J => ?_) ?_
  ·refine zaK (t:=14) Z ?_ ?_
   ·intro hs14
    have hs14:¬ (0≤x.2.1∧x.2.1≤65535):=zDm (zat hs14)
    refine a5 ?_
    exact J _ zej
   ·intro hs14
    have hs14:0≤x.2.1∧x.2.1≤65535:=zDf (zas hs14)
    refine a2 ?_
    refine zca Z (zf0 x.2.2.1 65535) ?_
    rintro _ _ ⟨rfl,rfl⟩
    refine a2 ?_
    exact J _ zej
  ·refine a1 ?_
   refine zaI 5 (E':=[(25,.bool (decide (((¬ (0≤x.2.1∧x.2.1≤65535))∨(¬ (0≤x.2.2.1∧x.2.2.1≤65535)))∨(¬ (0≤x.2.2.2.1∧x.2.2.2.1≤2147483647))))),(1,pB b1)]) (fun J => ?_) ?_
   ·refine zaG (t:=20) Z ?_ ?_
    ·intro hs20
     try dsimp only at hs20
     refine a5 ?_
     exact J _ zej
    ·intro hs20
     try dsimp only at hs20
     refine a2 ?_
     refine zca Z (zf0 x.2.2.2.1 2147483647) ?_
     rintro _ _ ⟨rfl,rfl⟩
     refine a2 ?_
     exact J _ zej
   ·refine a1 ?_
    refine zac Z ?_ ?_
    ·intro hc2
     try dsimp only at hc2
     refine a4 ?_
     refine zpk [] 1 ?_
     exact zad Tryz.func29 Z Z (⟨_,⟨fun h => (by cases h),fun h => by obtain ⟨_,h2,h3,h4,_⟩:=h; exfalso; simp [h2,h3,h4] at hc2; done⟩,rfl,rfl⟩)
    ·intro hc2
     try dsimp only at hc2
     refine a2 ?_
     have hn2:(0≤x.2.1∧x.2.1≤65535)∧(0≤x.2.2.1∧x.2.2.1≤65535)∧(0≤x.2.2.2.1∧x.2.2.2.1≤2147483647):=by simpa [and_assoc] using hc2
     refine a5 ?_
     refine zca Z (ziS x.2.1 x.2.2.2.2 kQ) ?_
     rintro _ _ ⟨e4,hdk5,rfl,rfl⟩
     refine a2 ?_
     refine zpk [] 1 ?_
     exact zad Tryz.func29 Z Z (⟨_,⟨fun h => ⟨hck3.1 hc1,hn2.1,hn2.2.1,hn2.2.2,hdk5.1 h⟩,fun h => hdk5.2 h.2.2.2.2⟩,Z,Z⟩)
theorem zl7 {x:Rc5}(h:ROk x):SCalls Tryz.prog 29 [.agg #[str x.1,int x.2.1,int x.2.2.1,int x.2.2.2.1,str x.2.2.2.2]] w0 base H (fun v H' => v=int 0∧H' = H) :=
 (zeT x ⟨by have:=h.1.le; omega,by have:=h.2.2.2.2.2.1; omega⟩).mono fun v H' ⟨e,h1,h2,h3⟩ => ⟨by grind,h3⟩
theorem zcH (n:Int) :
  SCalls Tryz.prog 26 [vV n] w0 base (H) (fun v H' => v = .bool (decide (0≤n∧n≤65535))∧H' = H):=by
 refine zaa (n:=9) Tryz.func26 Z Z Z fun cs => ?_
 refine a9 ?_
 refine zjn 3 5 [(8,.bool (decide ((0≤(n:Int))∧((n:Int)≤65535))))] ?_
 skip
 refine a2 ?_
 exact zad Tryz.func26 Z Z (⟨by first | rfl | simp [zc3],Z⟩)
theorem zll {b:Nat}{c0 c1 c2 c3 c4 c5:Value} :
  SCalls Tryz.prog 28 [pB b] w0 base ([(b,.cells #[c0,c1,c2,c3,c4,c5] 25 (0,0))]::H) (fun v H' => v = .agg #[.pointer (some ⟨b,3,none⟩),.pointer (some ⟨b,4,none⟩),.pointer (some ⟨b,5,none⟩)]∧H' = [(b,.cells #[c0,c1,c2,c3,c4,c5] 25 (0,0))]::H):=by
 refine zaa (n:=13) Tryz.func28 Z Z Z fun cs => ?_
 refine a2 ?_
 refine AtL.alloc zrn (cs:=#[.pointer none,.pointer none,.pointer none]) Z zg0 Z ?_
 intro b1
 refine a2 ?_
 refine zaN (es:=[10]) (pv:=[(0,pB b),(1,pB b),(2,.pointer (some ⟨b,3,none⟩)),(3,pB b),(4,pB b),(5,.pointer (some ⟨b,4,none⟩)),(6,pB b),(7,pB b),(8,.pointer (some ⟨b,5,none⟩)),(9,.agg #[.pointer (some ⟨b,3,none⟩),.pointer (some ⟨b,4,none⟩),.pointer (some ⟨b,5,none⟩)])]) zaz kW kW kW ?_
 refine ⟨zj4<|zj4<|zjz<|⟨zpr Z Z Z (zom (v:=.agg #[.pointer (some ⟨b,3,none⟩),.pointer (some ⟨b,4,none⟩),.pointer (some ⟨b,5,none⟩)]) Z (fun w => by kernel_rfl)),trivial⟩,Z,Z,by kernel_rfl,_,Z,Z,Z,_,zaS (H':=[(b1,.cells #[.pointer (some ⟨b,3,none⟩),.pointer (some ⟨b,4,none⟩),.pointer (some ⟨b,5,none⟩)] 82 (0,0))]::[(b,.cells #[c0,c1,c2,c3,c4,c5] 25 (0,0))]::H) 0 0 zyF Z Z Z Z Z Z Z Z Z,?_⟩
 rintro _ _ ⟨rfl,rfl⟩
 refine ⟨[],Z,?_⟩
 refine ⟨zk4<|zk4<|zjk<|zjk<|trivial,by kernel_rfl,?_⟩
 refine At.mono (E':=[(2,pB b1)]) ⟨Z,trivial⟩ ?_
 exact zaE (vs:=[.agg #[.pointer (some ⟨b,3,none⟩),.pointer (some ⟨b,4,none⟩),.pointer (some ⟨b,5,none⟩)]]) [1] 2 Z Z Tryz.func28 Z ⟨⟨_,Z,LoadsTo.agg (cs:=[.pointer (some ⟨b,3,none⟩),.pointer (some ⟨b,4,none⟩),.pointer (some ⟨b,5,none⟩)]) zvl Z (zaw 0 0 0 Z Z Z)⟩,trivial⟩ (⟨Z,Z⟩)
theorem zgo {id flags:Int}{Aa An Ar:Option Addr}{Ca Cn Cr:Nat}{qs:List (yB×Int×Int)}{an ns ar:List (yB×Int×Int×Int×yB)}(hq:Rd tyQn w0 base H Aq Cq qs) (ha:Rd tyRec w0 base H Aa Ca an) (hn:Rd tyRec w0 base H An Cn ns) (hr:Rd tyRec w0 base H Ar Cr ar) (hB:qs.length≤140737488355328∧an.length≤140737488355328∧ns.length≤140737488355328∧ar.length≤140737488355328) (hqs8:∀ q ∈ qs,q.1.length≤4398046511104) (han8:∀ x ∈ an,x.1.length≤4398046511104∧x.2.2.2.2.length≤4398046511104) (hns8:∀ x ∈ ns,x.1.length≤4398046511104∧x.2.2.2.2.length≤4398046511104) (har8:∀ x ∈ ar,x.1.length≤4398046511104∧x.2.2.2.2.length≤4398046511104) :
  SCalls Tryz.prog 6 [.agg #[vV id,vV flags,.slice Aq qs.length Cq,.slice Aa an.length Ca,.slice An ns.length Cn,.slice Ar ar.length Cr]] w0 base (H) (fun v H' => ∃ e:Int,(e=0↔MOk id flags qs an ns ar)∧v=int e∧H' = H):=by
 have hleq:=hq.le
 have hcapq:=hq.cap
 have hlea:=ha.le
 have hcapa:=ha.cap
 have hlen:=hn.le
 have hcapn:=hn.cap
 have hler:=hr.le
 have hcapr:=hr.cap
 refine zaa (n:=90) Tryz.func6 Z Z Z fun cs => ?_
 refine a2 ?_
 refine zaU (cs:=#[vV id,vV flags,.slice Aq qs.length Cq,.slice Aa an.length Ca,.slice An ns.length Cn,.slice Ar ar.length Cr]) Z zg0 Z Z ?_
 intro b1
 refine a7 ?_
 refine zca Z (zcH id) ?_
 rintro _ _ ⟨rfl,rfl⟩
 refine a2 ?_
 refine zaI 5 (E':=[(20,.bool (decide ((¬ (0≤id∧id≤65535))∨(¬ (0≤flags∧flags≤65535))))),(1,pB b1)]) (fun J => ?_) ?_
 ·refine zaK (t:=15) Z ?_ ?_
  ·intro hs15
   have hs15:¬ (0≤id∧id≤65535):=zDm (zat hs15)
   refine a5 ?_
   exact J _ zej
  ·intro hs15
   have hs15:0≤id∧id≤65535:=zDf (zas hs15)
   refine a2 ?_
   refine zca Z (zcH flags) ?_
   rintro _ _ ⟨rfl,rfl⟩
   refine a2 ?_
   exact J _ zej
 ·refine a1 ?_
  refine zac Z ?_ ?_
  ·intro hc1
   try dsimp only at hc1
   refine a4 ?_
   refine zpk [] 1 ?_
   exact zad Tryz.func6 Z Z (⟨_,⟨fun h => (by cases h),fun h => by obtain ⟨h1,h2,h3,h4,h5,h6,h7⟩:=h; exfalso; omega⟩,rfl,rfl⟩)
  ·intro hc1
   try dsimp only at hc1
   refine a7 ?_
   refine zca Z (zcH (qs.length:Int)) ?_
   rintro _ _ ⟨rfl,rfl⟩
   refine a2 ?_
   refine zaI 6 (E':=[(32,.bool (decide ((¬ (0≤(qs.length:Int)∧(qs.length:Int)≤65535))∨(¬ (0≤(an.length:Int)∧(an.length:Int)≤65535))))),(1,pB b1)]) (fun J => ?_) ?_
   ·refine zaK (t:=26) Z ?_ ?_
    ·intro hs26
     have hs26:¬ (0≤(qs.length:Int)∧(qs.length:Int)≤65535):=zDm (zat hs26)
     refine a6 ?_
     exact J _ zej
    ·intro hs26
     have hs26:0≤(qs.length:Int)∧(qs.length:Int)≤65535:=zDf (zas hs26)
     refine a3 ?_
     refine zca Z (zcH (an.length:Int)) ?_
     rintro _ _ ⟨rfl,rfl⟩
     refine a2 ?_
     exact J _ zej
   ·refine a1 ?_
    refine zaI 6 (E':=[(39,.bool (decide (((¬ (0≤(qs.length:Int)∧(qs.length:Int)≤65535))∨(¬ (0≤(an.length:Int)∧(an.length:Int)≤65535)))∨(¬ (0≤(ns.length:Int)∧(ns.length:Int)≤65535))))),(1,pB b1)]) (fun J => ?_) ?_
    ·refine zaG (t:=33) Z ?_ ?_
     ·intro hs33
      try dsimp only at hs33
      refine a6 ?_
      exact J _ zej
     ·intro hs33
      try dsimp only at hs33
      refine a3 ?_
      refine zca Z (zcH (ns.length:Int)) ?_
      rintro _ _ ⟨rfl,rfl⟩
      refine a2 ?_
      exact J _ zej
    ·refine a1 ?_
     refine zaI 6 (E':=[(46,.bool (decide ((((¬ (0≤(qs.length:Int)∧(qs.length:Int)≤65535))∨(¬ (0≤(an.length:Int)∧(an.length:Int)≤65535)))∨(¬ (0≤(ns.length:Int)∧(ns.length:Int)≤65535)))∨(¬ (0≤(ar.length:Int)∧(ar.length:Int)≤65535))))),(1,pB b1)]) (fun J => ?_) ?_
     ·refine zaG (t:=40) Z ?_ ?_
      ·intro hs40
       try dsimp only at hs40
       refine a6 ?_
       exact J _ zej
      ·intro hs40
       try dsimp only at hs40
       refine a3 ?_
       refine zca Z (zcH (ar.length:Int)) ?_
       rintro _ _ ⟨rfl,rfl⟩
       refine a2 ?_
       exact J _ zej
     ·refine a1 ?_
      refine zac Z ?_ ?_
      ·intro hc2
       try dsimp only at hc2
       refine a4 ?_
       refine zpk [] 1 ?_
       exact zad Tryz.func6 Z Z (⟨_,⟨fun h => (by cases h),fun h => by obtain ⟨h1,h2,h3,h4,h5,h6,h7⟩:=h; exfalso; omega⟩,rfl,rfl⟩)
      ·intro hc2
       try dsimp only at hc2
       refine a10 ?_
       refine zbM (fun (j:Nat) => [(1,pB b1),(48,.slice Aq qs.length Cq),(49,vV (qs.length:Int)),(50,vV (j:Int))]) (fun j => (O1 b1 id flags Aq qs.length Cq Aa an.length Ca An ns.length Cn Ar ar.length Cr)::H) (fun j => j≤qs.length∧∀ q ∈ qs.take j,QOk q) (fun j => qs.length - j) 0 (⟨zDq _,fun q h => by simp at h⟩) ⟨Z,Z,Z,Z,trivial⟩ Z ?_
       rintro j ⟨hj,hqs⟩ ihL1
       refine a5 ?_
       refine zac Z ?_ ?_
       ·intro hc3
        try dsimp only at hc3
        refine a5 ?_
        refine zah j (Rd.skip 1 hq) Z zfp zg0 Z Z Z Z kQ ?_
        refine zaM (n:=0) (Rd.skip 1 hq) (getD_some rD3 kQ) Z zih zg0 Z Z<|AtL.alloc zev (cs:=#[str [],vV 0,vV 0]) Z zg0 Z ?_
        intro b2
        refine a4 ?_
        have hq8:=hqs8 _ (zaA (l:=qs) (i:=j) (d:=rD3) kQ)
        refine a3 ?_
        refine zca Z (zgN ((qs.getD j rD3).1) kQ) ?_
        rintro _ _ ⟨e3,hck4,rfl,rfl⟩
        refine a7 ?_
        refine zaT Z ?_ ?_
        ·intro hc4
         have hc4:¬ ((e3:Int)=0):=zDm (zat hc4)
         refine a5 ?_
         refine zpk [] 2 ?_
         exact zad Tryz.func6 Z Z (⟨_,⟨fun h => absurd h (by first | exact hc4 | omega),fun h => absurd (hck4.2 (h.2.2.2.1 _ (zaA kQ)).1) (by first | exact hc4 | omega)⟩,Z,Z⟩)
        ·intro hc4
         have hc4:(e3:Int)=0:=zDf (zas hc4)
         refine a5 ?_
         refine zca Z (zcH ((qs.getD j rD3).2.1)) ?_
         rintro _ _ ⟨rfl,rfl⟩
         refine a2 ?_
         refine zaI 5 (E':=[(69,.bool (decide ((¬ (0≤((qs.getD j rD3).2.1)∧((qs.getD j rD3).2.1)≤65535))∨(¬ (0≤((qs.getD j rD3).2.2)∧((qs.getD j rD3).2.2)≤65535))))),(1,pB b1),(48,.slice Aq qs.length Cq),(49,vV (qs.length:Int)),(50,vV (j:Int))]) (fun J => ?_) ?_
         ·refine zaK (t:=64) Z ?_ ?_
          ·intro hs64
           have hs64:¬ (0≤((qs.getD j rD3).2.1)∧((qs.getD j rD3).2.1)≤65535):=zDm (zat hs64)
           refine a5 ?_
           exact J _ zej
          ·intro hs64
           have hs64:0≤((qs.getD j rD3).2.1)∧((qs.getD j rD3).2.1)≤65535:=zDf (zas hs64)
           refine a2 ?_
           refine zca Z (zcH ((qs.getD j rD3).2.2)) ?_
           rintro _ _ ⟨rfl,rfl⟩
           refine a2 ?_
           exact J _ zej
         ·refine a1 ?_
          refine zac Z ?_ ?_
          ·intro hc5
           try dsimp only at hc5
           refine a4 ?_
           refine zpk [] 2 ?_
           exact zad Tryz.func6 Z Z (⟨_,⟨fun h => (by cases h),fun h => by obtain ⟨h1,h2,h3,h4,h5,h6,h7⟩:=h; exfalso; have h9:=h4 _ (zaA (l:=qs) (i:=j) (d:=rD3) kQ); have h8a:=h9.2.1; have h8b:=h9.2.2; omega⟩,Z,Z⟩)
          ·intro hc5
           try dsimp only at hc5
           refine a6 ?_
           refine zpk [1] 2 ?_
           refine ihL1 (j + 1) (⟨by omega,zii (d:=rD3) hqs kQ ⟨hck4.1 (by first | exact hc4 | omega),kQ,kQ⟩⟩) kQ _ ?_
           exact zen
       ·intro hc3
        try dsimp only at hc3
        refine a4 ?_
        refine zca Z zll ?_
        rintro _ _ ⟨rfl,rfl⟩
        refine a3 ?_
        refine zcj<|a11 ?_
        refine zai (zb1 (v:=.pointer (some ⟨b1,3,none⟩)) Z Z (fun w => by kernel_rfl)) zg0 Z<|a11 ?_
        refine zbM (fun (j3:Nat) => [(71,.agg #[.pointer (some ⟨b1,3,none⟩),.pointer (some ⟨b1,4,none⟩),.pointer (some ⟨b1,5,none⟩)]),(72,vV 0),(77,.slice Aa an.length Ca),(78,vV (an.length:Int)),(79,vV (j3:Int))]) (fun j3 => (O1 b1 id flags Aq qs.length Cq Aa an.length Ca An ns.length Cn Ar ar.length Cr)::H) (fun j3 => j3≤an.length∧∀ x ∈ an.take j3,ROk x) (fun j3 => an.length - j3) 0 (⟨zDq _,fun q h => by simp at h⟩) ⟨Z,Z,Z,Z,Z,trivial⟩ Z ?_
        rintro j3 ⟨hj3,han9⟩ ihL3
        refine a5 ?_
        refine zac Z ?_ ?_
        ·intro hc7
         try dsimp only at hc7
         refine a5 ?_
         refine zah j3 (Rd.skip 1 ha) Z zbs zg0 Z Z Z Z kQ ?_
         refine zaM (n:=0) (Rd.skip 1 ha) (getD_some rD5 kQ) Z zbF zg0 Z Z<|AtL.alloc zbg (cs:=#[str [],vV 0,vV 0,vV 0,str []]) Z zg0 Z ?_
         intro b5
         refine a3 ?_
         have hx9:=han8 _ (zaA (l:=an) (i:=j3) (d:=rD5) kQ)
         refine a2 ?_
         refine zca Z (zeT (an.getD j3 rD5) hx9) ?_
         rintro _ _ ⟨e6,hrk7,rfl,rfl⟩
         refine a7 ?_
         refine zaT Z ?_ ?_
         ·intro hc8
          have hc8:¬ ((e6:Int)=0):=zDm (zat hc8)
          refine a5 ?_
          refine zpk [] 2 ?_
          exact zad Tryz.func6 Z Z (⟨_,⟨fun h => absurd h (by first | exact hc8 | omega),fun h => absurd (hrk7.2 (h.2.2.2.2.1 _ (zaA kQ))) (by first | exact hc8 | omega)⟩,Z,Z⟩)
         ·intro hc8
          have hc8:(e6:Int)=0:=zDf (zas hc8)
          refine a6 ?_
          refine zpk [1] 2 ?_
          refine ihL3 (j3 + 1) (⟨by omega,zii (d:=rD5) han9 kQ (hrk7.1 (by first | exact hc8 | omega))⟩) kQ _ ?_
          exact zen
        ·intro hc7
         try dsimp only at hc7
         refine a3 ?_
         refine AtL.add (z:=1) zg0 Z Z Z kE<|a14 ?_
         refine zai (zb1 (v:=.pointer (some ⟨b1,4,none⟩)) Z Z (fun w => by kernel_rfl)) zg0 Z<|a11 ?_
         refine zbM (fun (j4:Nat) => [(71,.agg #[.pointer (some ⟨b1,3,none⟩),.pointer (some ⟨b1,4,none⟩),.pointer (some ⟨b1,5,none⟩)]),(72,vV 1),(77,.slice An ns.length Cn),(78,vV (ns.length:Int)),(79,vV (j4:Int))]) (fun j4 => (O1 b1 id flags Aq qs.length Cq Aa an.length Ca An ns.length Cn Ar ar.length Cr)::H) (fun j4 => j4≤ns.length∧∀ x ∈ ns.take j4,ROk x) (fun j4 => ns.length - j4) 0 (⟨zDq _,fun q h => by simp at h⟩) ⟨Z,Z,Z,Z,Z,trivial⟩ Z ?_
         rintro j4 ⟨hj4,hns9⟩ ihL3
         refine a5 ?_
         refine zac Z ?_ ?_
         ·intro hc7
          try dsimp only at hc7
          refine a5 ?_
          refine zah j4 (Rd.skip 1 hn) Z zbs zg0 Z Z Z Z kQ ?_
          refine zaM (n:=0) (Rd.skip 1 hn) (getD_some rD5 kQ) Z zbF zg0 Z Z<|AtL.alloc zbg (cs:=#[str [],vV 0,vV 0,vV 0,str []]) Z zg0 Z ?_
          intro b8
          refine a3 ?_
          have hx9:=hns8 _ (zaA (l:=ns) (i:=j4) (d:=rD5) kQ)
          refine a2 ?_
          refine zca Z (zeT (ns.getD j4 rD5) hx9) ?_
          rintro _ _ ⟨e9,hrk10,rfl,rfl⟩
          refine a7 ?_
          refine zaT Z ?_ ?_
          ·intro hc8
           have hc8:¬ ((e9:Int)=0):=zDm (zat hc8)
           refine a5 ?_
           refine zpk [] 2 ?_
           exact zad Tryz.func6 Z Z (⟨_,⟨fun h => absurd h (by first | exact hc8 | omega),fun h => absurd (hrk10.2 (h.2.2.2.2.2.1 _ (zaA kQ))) (by first | exact hc8 | omega)⟩,Z,Z⟩)
          ·intro hc8
           have hc8:(e9:Int)=0:=zDf (zas hc8)
           refine a6 ?_
           refine zpk [1] 2 ?_
           refine ihL3 (j4 + 1) (⟨by omega,zii (d:=rD5) hns9 kQ (hrk10.1 (by first | exact hc8 | omega))⟩) kQ _ ?_
           exact zen
         ·intro hc7
          try dsimp only at hc7
          refine a3 ?_
          refine AtL.add (z:=2) zg0 Z Z Z kE<|a14 ?_
          refine zai (zb1 (v:=.pointer (some ⟨b1,5,none⟩)) Z Z (fun w => by kernel_rfl)) zg0 Z<|a11 ?_
          refine zbM (fun (j5:Nat) => [(71,.agg #[.pointer (some ⟨b1,3,none⟩),.pointer (some ⟨b1,4,none⟩),.pointer (some ⟨b1,5,none⟩)]),(72,vV 2),(77,.slice Ar ar.length Cr),(78,vV (ar.length:Int)),(79,vV (j5:Int))]) (fun j5 => (O1 b1 id flags Aq qs.length Cq Aa an.length Ca An ns.length Cn Ar ar.length Cr)::H) (fun j5 => j5≤ar.length∧∀ x ∈ ar.take j5,ROk x) (fun j5 => ar.length - j5) 0 (⟨zDq _,fun q h => by simp at h⟩) ⟨Z,Z,Z,Z,Z,trivial⟩ Z ?_
          rintro j5 ⟨hj5,har9⟩ ihL3
          refine a5 ?_
          refine zac Z ?_ ?_
          ·intro hc7
           try dsimp only at hc7
           refine a5 ?_
           refine zah j5 (Rd.skip 1 hr) Z zbs zg0 Z Z Z Z kQ ?_
           refine zaM (n:=0) (Rd.skip 1 hr) (getD_some rD5 kQ) Z zbF zg0 Z Z<|AtL.alloc zbg (cs:=#[str [],vV 0,vV 0,vV 0,str []]) Z zg0 Z ?_
           intro b11
           refine a3 ?_
           have hx9:=har8 _ (zaA (l:=ar) (i:=j5) (d:=rD5) kQ)
           refine a2 ?_
           refine zca Z (zeT (ar.getD j5 rD5) hx9) ?_
           rintro _ _ ⟨e12,hrk13,rfl,rfl⟩
           refine a7 ?_
           refine zaT Z ?_ ?_
           ·intro hc8
            have hc8:¬ ((e12:Int)=0):=zDm (zat hc8)
            refine a5 ?_
            refine zpk [] 2 ?_
            exact zad Tryz.func6 Z Z (⟨_,⟨fun h => absurd h (by first | exact hc8 | omega),fun h => absurd (hrk13.2 (h.2.2.2.2.2.2 _ (zaA kQ))) (by first | exact hc8 | omega)⟩,Z,Z⟩)
           ·intro hc8
            have hc8:(e12:Int)=0:=zDf (zas hc8)
            refine a6 ?_
            refine zpk [1] 2 ?_
            refine ihL3 (j5 + 1) (⟨by omega,zii (d:=rD5) har9 kQ (hrk13.1 (by first | exact hc8 | omega))⟩) kQ _ ?_
            exact zen
          ·intro hc7
           try dsimp only at hc7
           refine a3 ?_
           refine AtL.add (z:=3) zg0 Z Z Z kE<|a14 ?_
           refine zpk [] 1 ?_
           exact zad Tryz.func6 Z Z (⟨0,⟨fun _ => ⟨by omega,by omega,by omega,(by rw [zDc kQ] at hqs; exact hqs),(by rw [zDc kQ] at han9; exact han9),(by rw [zDc kQ] at hns9; exact hns9),(by rw [zDc kQ] at har9; exact har9)⟩,fun _ => Z⟩,Z,Z⟩)
theorem zbJ (h:Rd tyB w0 base H A C l) (i:Nat) {n:Int}(hs:Stands l i (be2 n)) (h0:0≤n∧n≤65535) (hl:l.length≤140737488355328):SCalls Tryz.prog 34 [.slice A l.length C,int (i:Int)] w0 base H (fun v H' => v = .tuple #[int n,int ((i:Int) + 2),.agg #[int 0,int 0]]∧H' = H):=by
 have h2:=hs.2
 have h9:=zwv h i kQ kQ
 rwa [zww hs h0] at h9
theorem zBG (h:p < 16384):IntKind.i64.wrap ((BitVec.ofInt IntKind.i64.bits ((49152 + p:Nat):Int) &&& BitVec.ofInt IntKind.i64.bits 16383).toNat:Int)=(p:Int):=by
 have h9:=zxw (a:=((49152 + p:Nat):Int)) (b:=(16383:Int)) 14 (49152 + p) rfl kE kE kQ
 omega
theorem zy9 {i:Nat}(h:p < 16384) (hs:Stands b i (be2 ((49152 + p:Nat):Int))):(b.getD i 0).toNat=192 + p / 256:=by
 have h1:=hs.getD (j:=0) (by grind [zam])
 rw [zDZ] at h1
 rw [h1]
 have h2:(((UInt8.ofInt (((49152 + p:Nat):Int) / 256)).toNat:Nat):Int)=192 + p / 256:=by grind [zGt]
 have h3:((be2 ((49152 + p:Nat):Int)).getD 0 0).toNat=(UInt8.ofInt (((49152 + p:Nat):Int) / 256)).toNat:=rfl
 omega
theorem zwh {i:Nat}(h:l.length≤63) (hs:Stands b i (UInt8.ofNat l.length::l)):(b.getD i 0).toNat=l.length∧i + (1 + l.length)≤b.length:=by
 have h1:=hs.getD (j:=0) kY
 have h2:=hs.2
 rw [zDZ] at h1
 grind [List.length_cons,zeO]
theorem Rn.pos {part i:Nat}{n:yB}(h:Rn b part i n nx k):0 < n.length:=by
 induction h with
 | zero _ => decide
 | lab _ _ _ _ => simp
 | ptr _ _ _ _ ih => exact ih
theorem zgv {n:yB}(h:Rd tyB w0 base H A C b) (at_:Nat) (hR:Rn b at_ at_ n nx k) (hn:n.length≤255) (hat:at_≤b.length) (hb:b.length≤140737488355328) :
  SCalls Tryz.prog 157 [.slice A b.length C,vV (at_:Int)] w0 base (H) (fun v H' => v = .tuple #[str n,int (nx:Int),.agg #[int 0,int 0]]∧H' = H):=by
 have hle0:=h.le
 have hcap0:=h.cap
 refine zaa (n:=107) Tryz.func157 Z Z Z fun cs => ?_
 refine a4 ?_
 refine AtL.alloc zaH (cs:=#[vV 0,vV 0]) Z zg0 Z ?_
 intro b1
 refine a1 ?_
 refine zxI<|a6 ?_
 refine zjn 5 20 [(25,.bool (decide (((at_:Int) < 0)∨((b.length:Int) < (at_:Int))))),(0,.slice A b.length C),(1,vV (at_:Int)),(6,pB b1)] ?_
 skip
 refine a1 ?_
 refine zao false Z kP<|a14 ?_
 refine zxM<|a2 ?_
 refine At.nil<|zxJ (fun (part:Nat) (j:Nat) (x:Sl tyB 5) (beh:Int) (n2:yB) (nx2:Nat) (k2:Nat) => [(0,.slice A b.length C),(1,vV (at_:Int)),(6,pB b1),(7,.slice x.A x.l.length x.C),(8,vV (part:Int)),(9,vV (j:Int)),(10,vV beh)]) (fun part j x beh n2 nx2 k2 => x.s::O4 b1 0 0::H) (fun part j x beh n2 nx2 k2 => Rn b part j n2 nx2 k2∧x.l++n2=n∧((beh < 0∧nx2=nx)∨(0≤beh∧beh=nx))∧part≤b.length∧j≤b.length) (fun part j x beh n2 nx2 k2 => k2) at_ at_ Sl.nil (-1) n nx k (⟨hR,Z,.inl ⟨by decide,Z⟩,hat,hat⟩) ⟨Z,Z,Z,Z,Z,Z,Z,trivial⟩ Z ?_
 rintro part j x beh n2 nx2 k2 ⟨hr,hxn,hbeh,hpl,hjl⟩ ihL1
 have hlen:x.l.length + n2.length=n.length:=by rw [← hxn,zC6]
 have hcap:=Own.cap_le x.own
 refine a3 ?_
 rcases hr.inv with ⟨rfl,rfl,hz⟩ | ⟨l,r,k3,rfl,rfl,hl,hs,hr2⟩ | ⟨p,nx3,k3,rfl,rfl,hp,h14,hs,hr2⟩
 ·have hc0:(b.getD j 0).toNat=0:=by have h1:=hz.getD (j:=0) kE; rw [zDZ] at h1; rw [h1]; rfl
  have hb0:j + 1≤b.length:=hz.2
  refine a6 ?_
  refine zao false Z (zDl kQ)<|a5 ?_
  refine zah j (Rd.skip 2 h) Z zaF zg0 Z Z Z Z kQ ?_
  refine zax (v:=.int .u8 ((b.getD j 0).toNat:Int)) zcP zg0 Z Z (zaL (Rd.skip 2 h) (getD_some 0 kQ) Z) ?_
  have hB2:=zeh ((b.getD j 0))
  refine zay (z:=((b.getD j 0).toNat:Int)) Z Z zg0 Z Z (zcG _)<|a9 ?_
  refine zao true Z (zDI kQ)<|a6 ?_
  refine zac Z ?_ ?_
  ·intro hc4
   try dsimp only at hc4
   refine a9 ?_
   refine zae (cs:=[.int .u8 0]) Z zbO zaF Z Z zg0 Z Z Z ?_
   intro b3
   refine zau tyB (l:=([0]:yB)) Z Z kT ?_
   intro s4 o5
   refine zap (l:=x.l) (news:=[0]) 1 zav Z x.own (o5.rd (i:=0) Z) (by first | omega | (simp only [zC6,zC7,zC8]; omega) | (simp; done) | (simp; omega)) zg0 Z Z Z ?_
   intro A6 C7 s8 o9
   refine zcw (o9.rd (i:=1) Z) Z Z Z zg0 Z Z<|a1 ?_
   refine zak (cs:=[vV 0,vV 0]) zbe zg0 Z Z Z<|a4 ?_
   exact zaE (vs:=[str (x.l++[0]),vV ((j:Int) + 1),.agg #[vV 0,vV 0]]) [] 3 Z Z Tryz.func157 Z ⟨Z,Z,⟨_,Z,LoadsTo.agg (cs:=[vV 0,vV 0]) zbi Z (zaw 2 0 0 Z Z Z)⟩,trivial⟩ (⟨by first | rfl | (rw [hxn]; rcases hbeh with ⟨_,h9⟩ | ⟨_,h9⟩ <;> first | (subst h9; rfl) | (rw [h9]; rfl) | omega),Z⟩)
  ·intro hc4
   try dsimp only at hc4
   refine a5 ?_
   refine zae (cs:=[.int .u8 0]) Z zbO zaF Z Z zg0 Z Z Z ?_
   intro b10
   refine zau tyB (l:=([0]:yB)) Z Z kT ?_
   intro s11 o12
   refine zap (l:=x.l) (news:=[0]) 1 zav Z x.own (o12.rd (i:=0) Z) (by first | omega | (simp only [zC6,zC7,zC8]; omega) | (simp; done) | (simp; omega)) zg0 Z Z Z ?_
   intro A13 C14 s15 o16
   refine zcw (o16.rd (i:=1) Z) Z Z Z zg0 Z Z<|a1 ?_
   refine zak (cs:=[vV 0,vV 0]) zbe zg0 Z Z Z<|a4 ?_
   exact zaE (vs:=[str (x.l++[0]),vV beh,.agg #[vV 0,vV 0]]) [] 3 Z Z Tryz.func157 Z ⟨Z,Z,⟨_,Z,LoadsTo.agg (cs:=[vV 0,vV 0]) zbi Z (zaw 2 0 0 Z Z Z)⟩,trivial⟩ (⟨by first | rfl | (rw [hxn]; rcases hbeh with ⟨_,h9⟩ | ⟨_,h9⟩ <;> first | (subst h9; rfl) | (rw [h9]; rfl) | omega),Z⟩)
 ·have hc0:=zwh hl.2 hs
  have hc1:=hc0.1; have hc2:=hc0.2
  have hl3:(UInt8.ofNat l.length::(l++r)).length=1 + l.length + r.length:=by simp; omega
  have hr3:0 < r.length:=hr2.pos
  have hsl:subl b j (j + ((b.getD j 0).toNat + 1))=UInt8.ofNat l.length::l:=by have h1:=hs.1; rw [hc1]; exact h1
  have hsll:=zDh List.length hsl
  have hr4:Rn b part (j + ((b.getD j 0).toNat + 1)) r nx2 k3:=by rw [hc1,Nat.add_comm l.length 1]; exact hr2
  have hsl2:(UInt8.ofNat l.length::l).length=1 + l.length:=by simp; omega
  refine a6 ?_
  refine zao false Z (zDl kQ)<|a5 ?_
  refine zah j (Rd.skip 2 h) Z zaF zg0 Z Z Z Z kQ ?_
  refine zax (v:=.int .u8 ((b.getD j 0).toNat:Int)) zcP zg0 Z Z (zaL (Rd.skip 2 h) (getD_some 0 kQ) Z) ?_
  have hB17:=zeh ((b.getD j 0))
  refine zay (z:=((b.getD j 0).toNat:Int)) Z Z zg0 Z Z (zcG _)<|a9 ?_
  refine zao false Z (zDl kQ)<|a6 ?_
  refine zao false Z (zDl kQ)<|a6 ?_
  refine zao false Z (zDl kQ)<|a6 ?_
  refine zca Z (zxg (l:=b) (Rd.skip 2 h) j (((b.getD j 0).toNat) + 1) kQ kQ) ?_
  rintro _ _ ⟨A18,C19,s20,o21,rfl,rfl⟩
  refine a4 ?_
  refine AtL.alloc zaH (cs:=#[vV 0,vV 0]) Z zg0 Z ?_
  intro b22
  refine a17 ?_
  refine zap (l:=x.l) (news:=(subl b j (j + (((b.getD j 0).toNat) + 1)))) 2 zav Z x.own (o21.rd (i:=1) Z) (by first | omega | (simp only [zC6,zC7,zC8]; omega) | (simp; done) | (simp; omega)) zg0 Z Z Z ?_
  intro A23 C24 s25 o26
  refine a9 ?_
  refine zao false Z (zDl (by simp only [zC6]; omega))<|a7 ?_
  refine zpk [2,3] 4 ?_
  refine ihL1 part (j + (((b.getD j 0).toNat) + 1):Nat) (⟨A23,C24,x.l++(subl b j (j + (((b.getD j 0).toNat) + 1))),s25,o26⟩) beh r nx2 k3 (⟨hr4,(show x.l++subl b j (j + ((b.getD j 0).toNat + 1))++r=n by rw [← hxn,hsl]; simp),hbeh,hpl,by omega⟩) kQ _ ?_
  exact zen
 ·have hc1:=zy9 h14 hs
  have hb0:j + 2≤b.length:=hs.2
  refine a6 ?_
  refine zao false Z (zDl kQ)<|a5 ?_
  refine zah j (Rd.skip 2 h) Z zaF zg0 Z Z Z Z kQ ?_
  refine zax (v:=.int .u8 ((b.getD j 0).toNat:Int)) zcP zg0 Z Z (zaL (Rd.skip 2 h) (getD_some 0 kQ) Z) ?_
  have hB27:=zeh ((b.getD j 0))
  refine zay (z:=((b.getD j 0).toNat:Int)) Z Z zg0 Z Z (zcG _)<|a9 ?_
  refine zao false Z (zDl kQ)<|a6 ?_
  refine zao true Z (zDI kQ)<|a4 ?_
  refine zca Z (zbJ (l:=b) (Rd.skip 2 h) j hs kQ kQ) ?_
  rintro _ _ ⟨rfl,rfl⟩
  refine a4 ?_
  refine AtL.alloc zaH (cs:=#[vV 0,vV 0]) Z zg0 Z ?_
  intro b28
  refine a17 ?_
  refine zpZ (z:=(p:Int)) zg0 Z Z Z (zBG h14)<|a8 ?_
  refine zao false Z (zDl kQ)<|a7 ?_
  refine zac Z ?_ ?_
  ·intro hc8
   try dsimp only at hc8
   refine a12 ?_
   refine zpk [1,2] 3 ?_
   refine ihL1 p p x ((j:Int) + 2) n2 nx3 k3 (⟨by first | exact hr2 | simpa using hr2,hxn,.inr kQ,by omega,by omega⟩) kQ _ ?_
   exact zen
  ·intro hc8
   try dsimp only at hc8
   refine a9 ?_
   refine zpk [1,2] 3 ?_
   refine ihL1 p p x beh n2 nx3 k3 (⟨by first | exact hr2 | simpa using hr2,hxn,.inr kQ,by omega,by omega⟩) kQ _ ?_
   exact zen
theorem zoN {d:yB}(h:Rd tyB w0 base H A C b) (at_ sz:Nat) {t:Int}(hR:RdD b at_ sz t d) (hD:DOk t d) (hb:b.length≤140737488355328) :
  SCalls Tryz.prog 91 [.slice A b.length C,vV (at_:Int),vV (sz:Int),vV t] w0 base (H) (fun v H' => v = .tuple #[str d,.agg #[int 0,int 0]]∧H' = H):=by
 have hle0:=h.le
 have hcap0:=h.cap
 have hR1:=hR.1; have hR2:=hR.2.1; have hD1:=hD.1; have hD2:=hD.2.1
 refine zaa (n:=150) Tryz.func91 Z Z Z fun cs => ?_
 refine a3 ?_
 refine AtL.alloc zaH (cs:=#[vV 0,vV 0]) Z zg0 Z ?_
 intro b1
 refine a8 ?_
 refine zaG (t:=24) Z ?_ ?_
 ·intro hs24
  try dsimp only at hs24
  refine a16 ?_
  refine zak (cs:=[vV 2,vV 0]) zbe zg0 Z Z Z<|a3 ?_
  exact zaE (vs:=[str [],.agg #[vV 2,vV 0]]) (H2:=H) [] 1 Z Z Tryz.func91 Z ⟨Z,⟨_,Z,LoadsTo.agg (cs:=[vV 2,vV 0]) zbi Z (zaw 0 0 0 Z Z Z)⟩,trivial⟩ (by exfalso; omega)
 ·intro hs24
  try dsimp only at hs24
  refine a4 ?_
  refine zaG (t:=28) Z ?_ ?_
  ·intro hs28
   try dsimp only at hs28
   refine a12 ?_
   refine zak (cs:=[vV 2,vV 0]) zbe zg0 Z Z Z<|a3 ?_
   exact zaE (vs:=[str [],.agg #[vV 2,vV 0]]) (H2:=H) [] 1 Z Z Tryz.func91 Z ⟨Z,⟨_,Z,LoadsTo.agg (cs:=[vV 2,vV 0]) zbi Z (zaw 0 0 0 Z Z Z)⟩,trivial⟩ (by exfalso; omega)
  ·intro hs28
   try dsimp only at hs28
   refine a4 ?_
   refine zaG (t:=32) Z ?_ ?_
   ·intro hs32
    try dsimp only at hs32
    refine a8 ?_
    refine zak (cs:=[vV 2,vV 0]) zbe zg0 Z Z Z<|a3 ?_
    exact zaE (vs:=[str [],.agg #[vV 2,vV 0]]) (H2:=H) [] 1 Z Z Tryz.func91 Z ⟨Z,⟨_,Z,LoadsTo.agg (cs:=[vV 2,vV 0]) zbi Z (zaw 0 0 0 Z Z Z)⟩,trivial⟩ (by exfalso; omega)
   ·intro hs32
    try dsimp only at hs32
    refine a5 ?_
    refine zao false Z kP<|a5 ?_
    refine zaG (t:=40) Z ?_ ?_
    ·intro hs40
     try dsimp only at hs40
     refine a10 ?_
     refine zak (cs:=[vV 5,vV 0]) zbe zg0 Z Z Z<|a3 ?_
     exact zaE (vs:=[str [],.agg #[vV 5,vV 0]]) (H2:=H) [] 1 Z Z Tryz.func91 Z ⟨Z,⟨_,Z,LoadsTo.agg (cs:=[vV 5,vV 0]) zbi Z (zaw 0 0 0 Z Z Z)⟩,trivial⟩ (by exfalso; omega)
    ·intro hs40
     try dsimp only at hs40
     refine a7 ?_
     refine zao false Z kP<|a10 ?_
     refine zao false Z (zDl kQ)<|a12 ?_
     refine zca Z (zoZ t) ?_
     rintro _ _ (⟨⟨A2,C3,ps4,s5,o6⟩,hps7,rfl,rfl⟩ | ⟨hps7,rfl,rfl⟩)
     ·replace hps7:ptsF t=some ps4:=hps7
      have hps7k:=zx2 hps7
      have hps7l:=hps7k.2.1
      refine a17 ?_
      refine zak (cs:=[vV 4,vV (at_:Int)]) zbe zg0 Z Z Z<|AtL.alloc zaH (cs:=#[vV 0,vV 0]) Z zg0 Z ?_
      intro b8
      refine a16 ?_
      refine zpk [2,0,1] 3 ?_
      refine zxL (fun (j:Nat) (i:Nat) (out:yB) (d2:yB) => [(0,.slice A b.length C),(3,vV t),(9,pB b1),(10,vV ((at_:Int) + (sz:Int))),(13,pB b8),(14,str out),(15,vV (i:Int)),(76,.slice A2 ps4.length C3),(77,vV (ps4.length:Int)),(78,vV (j:Int))]) (fun j i out d2 => (O4 b1 0 0)::O4 b8 4 (at_:Int)::s5::H) (fun j i out d2 => j≤ps4.length∧Dp b (at_ + sz) i (ps4.drop j) d2∧out++d2=d) (fun j i out d2 => ps4.length - j) 0 at_ [] d (⟨zDq _,hR.known hps7,Z⟩) ⟨Z,Z,Z,Z,Z,Z,Z,Z,Z,Z,trivial⟩ Z ?_
      rintro j i out d2 ⟨hj,hdp,hod⟩ ihL1
      have hie:=hdp.le
      have hlen:out.length + d2.length=d.length:=by rw [← hod,zC6]
      have hR1:=hR.1; have hR2:=hR.2.1; have hD2:=hD.2.1
      refine a5 ?_
      refine zac Z ?_ ?_
      ·intro hc5
       try dsimp only at hc5
       refine a4 ?_
       have hjl:j < ps4.length:=by omega
       have hdr0:=zbS (d:=rDb) hjl
       rcases hps7k.1 _ (zaA (d:=rDb) hjl) with ⟨hz0,hz1,hp2⟩ | hp | hp
       ·have hb1:(ps4.getD j rDb).2.1=false:=by rw [hp2]
        have hb2:(ps4.getD j rDb).2.2=false:=by rw [hp2]
        have hdr:ps4.drop j=((ps4.getD j rDb).1,false,false)::ps4.drop (j + 1):=by rw [hdr0]; congr 1; exact Prod.ext rfl hp2
        obtain ⟨s3,d3,hd3,hz3,hst3,hdp3⟩:=zAj (by rw [← hdr]; exact hdp)
        have hsl3:s3.length=Int.toNat (ps4.getD j rDb).1:=by omega
        have hst9:subl b i (i + Int.toNat (ps4.getD j rDb).1)=s3:=by rw [← hsl3]; exact hst3.1
        have hst8:=zDh List.length hst9; have hd4:=zDh List.length hd3; rw [zC6] at hd4
        have hle3:=hdp3.le; have hst4:=hst3.2
        refine a1 ?_
        refine zah j (o6.rd (i:=2) Z) Z zb9 zg0 Z Z Z Z kQ ?_
        refine zaM (n:=0) (o6.rd (i:=2) Z) (getD_some rDb kQ) Z zez zg0 Z Z<|AtL.alloc zbb (cs:=#[vV 0,.bool false,.bool false]) Z zg0 Z ?_
        intro b9
        refine a9 ?_
        refine zao false Z hb1<|a6 ?_
        refine zao false Z hb2<|a10 ?_
        refine zao false Z (zDl kQ) ?_
        have hleo12:=Rd.le h
        obtain ⟨A10,eA10⟩:∃ A10:Option Addr,A10=(if C=i then A else Option.map (fun a => a.add (i * tyB.sz)) A):=⟨_,rfl⟩
        obtain ⟨C11,eC11⟩:∃ C11:Nat,C11=C - i:=⟨_,rfl⟩
        have o12:Rd tyB w0 base H A10 C11 (subl b i (i + (Int.toNat ((ps4.getD j rDb).1)))):=by rw [eA10,eC11]; exact Rd.cut h kQ kQ kQ kQ
        refine zaN (es:=[]) (pv:=[(0,str out),(1,.slice A b.length C),(2,vV (i:Int)),(3,vV (i:Int)),(4,pB b9),(5,vV ((ps4.getD j rDb).1)),(6,vV ((i:Int) + ((ps4.getD j rDb).1))),(7,.slice A10 (subl b i (i + (Int.toNat ((ps4.getD j rDb).1)))).length C11),(8,str (subl b i (i + (Int.toNat ((ps4.getD j rDb).1))))),(9,str (out++(subl b i (i + (Int.toNat ((ps4.getD j rDb).1)))))),(10,vV (i:Int)),(11,pB b9),(12,vV ((ps4.getD j rDb).1)),(13,vV ((i:Int) + ((ps4.getD j rDb).1))),(14,str (out++(subl b i (i + (Int.toNat ((ps4.getD j rDb).1)))))),(15,vV ((i:Int) + ((ps4.getD j rDb).1)))]) zaz kW kW kW ?_
        refine ⟨zj4<|zj2<|⟨zpr Z Z Z (Do.add (z:=(i:Int) + ((ps4.getD j rDb).1)) Z Z (w64 kQ kQ)),⟨zpr Z Z Z (zaZ (T:=tyB) (l:=b) i (i + (Int.toNat ((ps4.getD j rDb).1))) C (zab Z Z) (zab Z kQ) Z (by intro h; cases h) kQ kQ (zDe _) Z zaF Z eA10 (zal (l:=b) (i:=i) (j:=(i + (Int.toNat ((ps4.getD j rDb).1)))) kQ) eC11),⟨zpr Z Z Z (zpU (Rd.skip 4 o12) Z Z Z Z),⟨zpr Z Z Z (zkI Z Z (by first | omega | (simp only [zC6,zC7,zC8]; omega) | (simp; omega))),zj2<|zjz<|⟨zpr Z Z Z (Do.add (z:=(i:Int) + ((ps4.getD j rDb).1)) Z Z (w64 kQ kQ)),zj2<|trivial⟩⟩⟩⟩⟩,by kernel_rfl,?_⟩
        refine At.mono (E':=[(0,.slice A b.length C),(3,vV t),(9,pB b1),(10,vV ((at_:Int) + (sz:Int))),(13,pB b8),(14,str (out++(subl b i (i + (Int.toNat ((ps4.getD j rDb).1)))))),(15,vV ((i:Int) + ((ps4.getD j rDb).1))),(76,.slice A2 ps4.length C3),(77,vV (ps4.length:Int)),(78,vV (j:Int))]) ⟨Z,Z,Z,Z,Z,Z,Z,Z,Z,Z,trivial⟩<|a6 ?_
        refine zpk [1,2,3] 4 ?_
        refine ihL1 (j + 1) (i + (Int.toNat ((ps4.getD j rDb).1))) (out++(subl b i (i + (Int.toNat ((ps4.getD j rDb).1))))) d3 (⟨by omega,(by have h9:=hdp3; rw [hsl3] at h9; exact h9),by rw [hst9,← hod,hd3]; simp⟩) kQ _ ?_
        exact zen
       ·have hb1:(ps4.getD j rDb).2.1=true:=by rw [hp]
        have hdr:ps4.drop j=(0,true,false)::ps4.drop (j + 1):=by rw [hdr0,hp]
        obtain ⟨n3,d3,nx3,k3,hd3,hn3,hrn3,hdp3⟩:=zAl (by rw [← hdr]; exact hdp)
        have hle3:=hdp3.le; have hrl3:=hrn3.le
        have hnl3:n3.length + d3.length=d2.length:=by rw [hd3,zC6]
        refine a1 ?_
        refine zah j (o6.rd (i:=2) Z) Z zb9 zg0 Z Z Z Z kQ ?_
        refine zaM (n:=0) (o6.rd (i:=2) Z) (getD_some rDb kQ) Z zez zg0 Z Z<|AtL.alloc zbb (cs:=#[vV 0,.bool false,.bool false]) Z zg0 Z ?_
        intro b13
        refine a9 ?_
        refine zao true Z hb1<|a4 ?_
        refine zca Z (zgv (b:=b) (Rd.skip 4 h) i hrn3 kQ kQ kQ) ?_
        rintro _ _ ⟨rfl,rfl⟩
        refine a4 ?_
        refine AtL.alloc zaH (cs:=#[vV 0,vV 0]) Z zg0 Z ?_
        intro b14
        refine a20 ?_
        refine zao false Z (zDl kQ)<|a4 ?_
        refine zos zg0 Z Z Z (by first | omega | (simp only [zC6,zC7,zC8]; omega) | (simp; omega))<|a10 ?_
        refine zpk [2,3,4] 5 ?_
        refine ihL1 (j + 1) nx3 (out++n3) d3 (⟨by omega,hdp3,by rw [← hod,hd3]; simp⟩) kQ _ ?_
        exact zen
       ·have hb1:(ps4.getD j rDb).2.1=false:=by rw [hp]
        have hb2:(ps4.getD j rDb).2.2=true:=by rw [hp]
        have hdn:ps4.drop (j + 1)=[]:=zDn (Nat.le_of_eq (hps7k.2.2 j hjl hp).symm)
        have hdr:ps4.drop j=[(0,false,true)]:=by rw [hdr0,hp,hdn]
        obtain ⟨hst3,hsl3⟩:=zAk (by rw [← hdr]; exact hdp)
        obtain ⟨d3,hd3⟩:∃ q:yB,q=[]:=⟨_,rfl⟩
        have hst9:subl b i (at_ + sz)=d2:=by rw [← hsl3]; exact hst3.1
        have hst8:=zDh List.length hst9
        refine a1 ?_
        refine zah j (o6.rd (i:=2) Z) Z zb9 zg0 Z Z Z Z kQ ?_
        refine zaM (n:=0) (o6.rd (i:=2) Z) (getD_some rDb kQ) Z zez zg0 Z Z<|AtL.alloc zbb (cs:=#[vV 0,.bool false,.bool false]) Z zg0 Z ?_
        intro b15
        refine a9 ?_
        refine zao false Z hb1<|a6 ?_
        refine zao true Z hb2<|a5 ?_
        have hleo18:=Rd.le h
        refine zbC 4 i (at_ + sz) C h (zab Z Z) (zab Z Z) Z (by intro h; cases h) kQ kQ kQ kQ Z zaF zg0 Z Z ?_
        clear hleo18
        intro A16 C17 (o18:Rd tyB w0 base H A16 C17 (subl b i (at_ + sz)))
        have hlo18:(subl b i (at_ + sz)).length=(at_ + sz) - i:=zal kQ
        refine zcw (Rd.skip 4 o18) Z Z Z zg0 Z Z ?_
        refine zos zg0 Z Z Z (by first | omega | (simp only [zC6,zC7,zC8]; omega) | (simp; omega))<|a10 ?_
        refine zpk [1,2,3] 4 ?_
        refine ihL1 (j + 1) (at_ + sz) (out++(subl b i (at_ + sz))) [] (⟨by omega,by rw [hdn]; exact Dp.nil,by rw [hst9,← hod]; simp⟩) kQ _ ?_
        exact zen
      ·intro hc5
       try dsimp only at hc5
       refine a3 ?_
       obtain ⟨hie9,hd9⟩:=zyj (by have h9:=hdp; rw [zDn kQ] at h9; exact h9)
       have hod9:out=d:=by rw [← hod,hd9,zDO]
       refine a5 ?_
       refine zaK (t:=141) Z ?_ ?_
       ·intro hs141
        have hs141:¬ ((i:Int)=((at_:Int) + (sz:Int))):=zDm (zat hs141)
        exact absurd hs141 kQ
       ·intro hs141
        have hs141:(i:Int)=((at_:Int) + (sz:Int)):=zDf (zas hs141)
        refine a2 ?_
        refine zca Z (zki (by rw [hod9]; exact hD)) ?_
        rintro _ _ ⟨rfl,rfl⟩
        refine a8 ?_
        refine zak (cs:=[vV 0,vV 0]) zbe zg0 Z Z Z<|a3 ?_
        exact zaE (vs:=[str out,.agg #[vV 0,vV 0]]) [] 3 Z Z Tryz.func91 Z ⟨Z,⟨_,Z,LoadsTo.agg (cs:=[vV 0,vV 0]) zbi Z (zaw 0 0 0 Z Z Z)⟩,trivial⟩ (⟨by rw [hod9]; rfl,Z⟩)
     ·refine a18 ?_
      have hleo21:=Rd.le h
      refine zbC 1 at_ (at_ + sz) C h (zab Z Z) (zab Z Z) Z (by intro h; cases h) kQ kQ kQ kQ Z zaF zg0 Z Z ?_
      clear hleo21
      intro A19 C20 (o21:Rd tyB w0 base H A19 C20 (subl b at_ (at_ + sz)))
      have hlo21:(subl b at_ (at_ + sz)).length=(at_ + sz) - at_:=zal kQ
      refine zcw (Rd.skip 1 o21) Z Z Z zg0 Z Z<|zak (cs:=[vV 0,vV 0]) zbe zg0 Z Z Z<|a3 ?_
      exact zaE (vs:=[str (subl b at_ (at_ + sz)),.agg #[vV 0,vV 0]]) [] 1 Z Z Tryz.func91 Z ⟨Z,⟨_,Z,LoadsTo.agg (cs:=[vV 0,vV 0]) zbi Z (zaw 0 0 0 Z Z Z)⟩,trivial⟩ (⟨by have h9:=hR.raw hps7; have h8:subl b at_ (at_ + sz)=d:=(by rw [← h9.2]; exact h9.1.1); rw [h8]; rfl,Z⟩)
theorem zd2 {i n:Int} :
  SCalls Tryz.prog 158 [pB rb,vV n,.agg #[vV 0,vV 0]] w0 base (O2 rb A b.length C i 0 0::H) (fun v H' => v = .bool true∧H' = (O2 rb A b.length C n 0 0)::H):=by
 refine zaa (n:=18) Tryz.func158 Z Z Z fun cs => ?_
 refine a2 ?_
 refine zaU (cs:=#[vV 0,vV 0]) Z zg0 Z Z ?_
 intro b1
 refine a23 ?_
 refine zpk [1] 2 ?_
 exact zad Tryz.func158 Z Z (⟨Z,Z⟩)
theorem zpt (h:Rd tyB w0 base H A C l) (i:Nat) {n:Int}(hs:Stands l i (be4 n)) (h0:0≤n∧n≤4294967295) (hl:l.length≤140737488355328):SCalls Tryz.prog 159 [.slice A l.length C,int (i:Int)] w0 base H (fun v H' => v = .tuple #[int n,int ((i:Int) + 4),.agg #[int 0,int 0]]∧H' = H):=by
 have h2:=hs.2
 rw [za3] at h2
 have h9:=zpu h i h2 kQ
 rwa [zwu hs h0] at h9
theorem zvG (h:Rd tyB w0 base H A C b) (hb:b.length≤140737488355328) (i:Nat) {n:yB}(hR:Rn b i i n nx k) (hn:n.length≤255) (hi:i≤b.length) :
  SCalls Tryz.prog 88 [pB rb,pB tb] w0 base (O2 rb A b.length C (i:Int) 0 0::[(tb,.cells #[str s0,vV n1,vV n2] 77 (0,0))]::H) (fun v H' => v = pB rb∧H' = (O2 rb A b.length C (nx:Int) 0 0)::[(tb,.cells #[str n,vV n1,vV n2] 77 (0,0))]::H):=by
 have hle0:=h.le
 have hcap0:=h.cap
 refine zaa (n:=35) Tryz.func88 Z Z Z fun cs => ?_
 refine a16 ?_
 refine zaN (es:=[13,16]) (pv:=[(0,pB rb),(1,pB rb),(2,pB rb),(3,.slice A b.length C),(4,pB rb),(5,pB rb),(6,.pointer (some ⟨rb,1,none⟩)),(7,vV (i:Int)),(8,.tuple #[str n,vV (nx:Int),.agg #[vV 0,vV 0]]),(9,.tuple #[str n,vV (nx:Int),.agg #[vV 0,vV 0]]),(10,str n),(11,vV (nx:Int)),(12,.agg #[vV 0,vV 0])]) zaz kW kW kW ?_
 refine ⟨zj4<|zj4<|⟨zpr Z Z Z (zbo zfY Z (zgv (b:=b) (Rd.skip 2 h) i hR kQ kQ kQ)),zj4<|trivial⟩,Z,Z,by kernel_rfl,_,Z,Z,Z,_,Do.alloc zaH (cs:=#[vV 0,vV 0]) Z,?_⟩
 rintro _ _ ⟨b1,rfl,rfl⟩
 refine ⟨[(14,str n),(15,vV (nx:Int))],Z,?_⟩
 refine ⟨zj4<|zj4<|zj2<|⟨zpr Z Z Z (zbo zfY Z (zgv (b:=b) (Rd.skip 3 h) i hR kQ kQ kQ)),zj4<|trivial⟩,Z,Z,by kernel_rfl,_,Z,Z,Z,_,zaS (H':=O4 b1 0 0::O2 rb A b.length C (i:Int) 0 0::[(tb,.cells #[str s0,vV n1,vV n2] 77 (0,0))]::H) 0 0 zdJ Z Z Z Z Z Z Z Z Z,?_⟩
 rintro _ _ ⟨rfl,rfl⟩
 refine ⟨[],Z,?_⟩
 refine ⟨zk4<|zk4<|zk4<|zjk<|zjk<|zjk<|trivial,by kernel_rfl,?_⟩
 refine At.mono (E':=[(0,pB rb),(1,pB tb),(5,str n),(6,vV (nx:Int)),(7,pB b1)]) ⟨Z,Z,Z,Z,Z,trivial⟩<|a5 ?_
 refine zpk [1,0,2] 3 ?_
 refine zca Z (zd2 (A:=A) (C:=C) (b:=b) (n:=(nx:Int))) ?_
 rintro _ _ ⟨rfl,rfl⟩
 refine a13 ?_
 refine zpk [0,2] 3 ?_
 exact zad Tryz.func88 Z Z (⟨Z,Z⟩)
theorem zvF (h:Rd tyB w0 base H A C b) (hb:b.length≤140737488355328) (i:Nat) {n:yB}(hR:Rn b i i n nx k) (hn:n.length≤255) (hi:i≤b.length) :
  SCalls Tryz.prog 88 [pB rb,pB tb] w0 base (O2 rb A b.length C (i:Int) 0 0::O5 tb (str s0) n1 n2 n3 (str s4)::H) (fun v H' => v = pB rb∧H' = (O2 rb A b.length C (nx:Int) 0 0)::O5 tb (str n) n1 n2 n3 (str s4)::H):=by
 have hle0:=h.le
 have hcap0:=h.cap
 refine zaa (n:=35) Tryz.func88 Z Z Z fun cs => ?_
 refine a16 ?_
 refine zaN (es:=[13,16]) (pv:=[(0,pB rb),(1,pB rb),(2,pB rb),(3,.slice A b.length C),(4,pB rb),(5,pB rb),(6,.pointer (some ⟨rb,1,none⟩)),(7,vV (i:Int)),(8,.tuple #[str n,vV (nx:Int),.agg #[vV 0,vV 0]]),(9,.tuple #[str n,vV (nx:Int),.agg #[vV 0,vV 0]]),(10,str n),(11,vV (nx:Int)),(12,.agg #[vV 0,vV 0])]) zaz kW kW kW ?_
 refine ⟨zj4<|zj4<|⟨zpr Z Z Z (zbo zfY Z (zgv (b:=b) (Rd.skip 2 h) i hR kQ kQ kQ)),zj4<|trivial⟩,Z,Z,by kernel_rfl,_,Z,Z,Z,_,Do.alloc zaH (cs:=#[vV 0,vV 0]) Z,?_⟩
 rintro _ _ ⟨b1,rfl,rfl⟩
 refine ⟨[(14,str n),(15,vV (nx:Int))],Z,?_⟩
 refine ⟨zj4<|zj4<|zj2<|⟨zpr Z Z Z (zbo zfY Z (zgv (b:=b) (Rd.skip 3 h) i hR kQ kQ kQ)),zj4<|trivial⟩,Z,Z,by kernel_rfl,_,Z,Z,Z,_,zaS (H':=O4 b1 0 0::O2 rb A b.length C (i:Int) 0 0::O5 tb (str s0) n1 n2 n3 (str s4)::H) 0 0 zdJ Z Z Z Z Z Z Z Z Z,?_⟩
 rintro _ _ ⟨rfl,rfl⟩
 refine ⟨[],Z,?_⟩
 refine ⟨zk4<|zk4<|zk4<|zjk<|zjk<|zjk<|trivial,by kernel_rfl,?_⟩
 refine At.mono (E':=[(0,pB rb),(1,pB tb),(5,str n),(6,vV (nx:Int)),(7,pB b1)]) ⟨Z,Z,Z,Z,Z,trivial⟩<|a5 ?_
 refine zpk [1,0,2] 3 ?_
 refine zca Z (zd2 (A:=A) (C:=C) (b:=b) (n:=(nx:Int))) ?_
 rintro _ _ ⟨rfl,rfl⟩
 refine a13 ?_
 refine zpk [0,2] 3 ?_
 exact zad Tryz.func88 Z Z (⟨Z,Z⟩)
theorem zyV (h:Rd tyB w0 base H A C b) (hb:b.length≤140737488355328) (i:Nat) {n:Int}(hs:Stands b i (be2 n)) (h0:0≤n∧n≤65535) :
  SCalls Tryz.prog 89 [pB rb,.pointer (some ⟨tb,1,none⟩)] w0 base (O2 rb A b.length C (i:Int) 0 0::[(tb,.cells #[str s0,vV n1,vV n2] 77 (0,0))]::H) (fun v H' => v = pB rb∧H' = (O2 rb A b.length C ((i:Int) + 2) 0 0)::[(tb,.cells #[str s0,vV n,vV n2] 77 (0,0))]::H):=by
 have hle0:=h.le
 have hcap0:=h.cap
 refine zaa (n:=35) Tryz.func89 Z Z Z fun cs => ?_
 refine a16 ?_
 refine zaN (es:=[13,16]) (pv:=[(0,pB rb),(1,pB rb),(2,pB rb),(3,.slice A b.length C),(4,pB rb),(5,pB rb),(6,.pointer (some ⟨rb,1,none⟩)),(7,vV (i:Int)),(8,.tuple #[vV n,vV ((i:Int) + 2),.agg #[vV 0,vV 0]]),(9,.tuple #[vV n,vV ((i:Int) + 2),.agg #[vV 0,vV 0]]),(10,vV n),(11,vV ((i:Int) + 2)),(12,.agg #[vV 0,vV 0])]) zaz kW kW kW ?_
 refine ⟨zj4<|zj4<|⟨zpr Z Z Z (zbo zcs Z (zbJ (l:=b) (Rd.skip 2 h) i hs h0 hb)),zj4<|trivial⟩,Z,Z,by kernel_rfl,_,Z,Z,Z,_,Do.alloc zaH (cs:=#[vV 0,vV 0]) Z,?_⟩
 rintro _ _ ⟨b1,rfl,rfl⟩
 refine ⟨[(14,vV n),(15,vV ((i:Int) + 2))],Z,?_⟩
 refine ⟨zj4<|zj4<|zj2<|⟨zpr Z Z Z (zbo zcs Z (zbJ (l:=b) (Rd.skip 3 h) i hs h0 hb)),zj4<|trivial⟩,Z,Z,by kernel_rfl,_,Z,Z,Z,_,zaS (H':=O4 b1 0 0::O2 rb A b.length C (i:Int) 0 0::[(tb,.cells #[str s0,vV n1,vV n2] 77 (0,0))]::H) 0 0 zdJ Z Z Z Z Z Z Z Z Z,?_⟩
 rintro _ _ ⟨rfl,rfl⟩
 refine ⟨[],Z,?_⟩
 refine ⟨zk4<|zk4<|zk4<|zjk<|zjk<|zjk<|trivial,by kernel_rfl,?_⟩
 refine At.mono (E':=[(0,pB rb),(1,.pointer (some ⟨tb,1,none⟩)),(5,vV n),(6,vV ((i:Int) + 2)),(7,pB b1)]) ⟨Z,Z,Z,Z,Z,trivial⟩<|a5 ?_
 refine zpk [1,0,2] 3 ?_
 refine zca Z (zd2 (A:=A) (C:=C) (b:=b) (n:=(i:Int) + 2)) ?_
 rintro _ _ ⟨rfl,rfl⟩
 refine a13 ?_
 refine zpk [0,2] 3 ?_
 exact zad Tryz.func89 Z Z (⟨Z,Z⟩)
theorem zyU (h:Rd tyB w0 base H A C b) (hb:b.length≤140737488355328) (i:Nat) {n:Int}(hs:Stands b i (be2 n)) (h0:0≤n∧n≤65535) :
  SCalls Tryz.prog 89 [pB rb,.pointer (some ⟨tb,2,none⟩)] w0 base (O2 rb A b.length C (i:Int) 0 0::[(tb,.cells #[str s0,vV n1,vV n2] 77 (0,0))]::H) (fun v H' => v = pB rb∧H' = (O2 rb A b.length C ((i:Int) + 2) 0 0)::[(tb,.cells #[str s0,vV n1,vV n] 77 (0,0))]::H):=by
 have hle0:=h.le
 have hcap0:=h.cap
 refine zaa (n:=35) Tryz.func89 Z Z Z fun cs => ?_
 refine a16 ?_
 refine zaN (es:=[13,16]) (pv:=[(0,pB rb),(1,pB rb),(2,pB rb),(3,.slice A b.length C),(4,pB rb),(5,pB rb),(6,.pointer (some ⟨rb,1,none⟩)),(7,vV (i:Int)),(8,.tuple #[vV n,vV ((i:Int) + 2),.agg #[vV 0,vV 0]]),(9,.tuple #[vV n,vV ((i:Int) + 2),.agg #[vV 0,vV 0]]),(10,vV n),(11,vV ((i:Int) + 2)),(12,.agg #[vV 0,vV 0])]) zaz kW kW kW ?_
 refine ⟨zj4<|zj4<|⟨zpr Z Z Z (zbo zcs Z (zbJ (l:=b) (Rd.skip 2 h) i hs h0 hb)),zj4<|trivial⟩,Z,Z,by kernel_rfl,_,Z,Z,Z,_,Do.alloc zaH (cs:=#[vV 0,vV 0]) Z,?_⟩
 rintro _ _ ⟨b1,rfl,rfl⟩
 refine ⟨[(14,vV n),(15,vV ((i:Int) + 2))],Z,?_⟩
 refine ⟨zj4<|zj4<|zj2<|⟨zpr Z Z Z (zbo zcs Z (zbJ (l:=b) (Rd.skip 3 h) i hs h0 hb)),zj4<|trivial⟩,Z,Z,by kernel_rfl,_,Z,Z,Z,_,zaS (H':=O4 b1 0 0::O2 rb A b.length C (i:Int) 0 0::[(tb,.cells #[str s0,vV n1,vV n2] 77 (0,0))]::H) 0 0 zdJ Z Z Z Z Z Z Z Z Z,?_⟩
 rintro _ _ ⟨rfl,rfl⟩
 refine ⟨[],Z,?_⟩
 refine ⟨zk4<|zk4<|zk4<|zjk<|zjk<|zjk<|trivial,by kernel_rfl,?_⟩
 refine At.mono (E':=[(0,pB rb),(1,.pointer (some ⟨tb,2,none⟩)),(5,vV n),(6,vV ((i:Int) + 2)),(7,pB b1)]) ⟨Z,Z,Z,Z,Z,trivial⟩<|a5 ?_
 refine zpk [1,0,2] 3 ?_
 refine zca Z (zd2 (A:=A) (C:=C) (b:=b) (n:=(i:Int) + 2)) ?_
 rintro _ _ ⟨rfl,rfl⟩
 refine a13 ?_
 refine zpk [0,2] 3 ?_
 exact zad Tryz.func89 Z Z (⟨Z,Z⟩)
theorem zyT (h:Rd tyB w0 base H A C b) (hb:b.length≤140737488355328) (i:Nat) {n:Int}(hs:Stands b i (be2 n)) (h0:0≤n∧n≤65535) :
  SCalls Tryz.prog 89 [pB rb,.pointer (some ⟨tb,1,none⟩)] w0 base (O2 rb A b.length C (i:Int) 0 0::O5 tb (str s0) n1 n2 n3 (str s4)::H) (fun v H' => v = pB rb∧H' = (O2 rb A b.length C ((i:Int) + 2) 0 0)::O5 tb (str s0) n n2 n3 (str s4)::H):=by
 have hle0:=h.le
 have hcap0:=h.cap
 refine zaa (n:=35) Tryz.func89 Z Z Z fun cs => ?_
 refine a16 ?_
 refine zaN (es:=[13,16]) (pv:=[(0,pB rb),(1,pB rb),(2,pB rb),(3,.slice A b.length C),(4,pB rb),(5,pB rb),(6,.pointer (some ⟨rb,1,none⟩)),(7,vV (i:Int)),(8,.tuple #[vV n,vV ((i:Int) + 2),.agg #[vV 0,vV 0]]),(9,.tuple #[vV n,vV ((i:Int) + 2),.agg #[vV 0,vV 0]]),(10,vV n),(11,vV ((i:Int) + 2)),(12,.agg #[vV 0,vV 0])]) zaz kW kW kW ?_
 refine ⟨zj4<|zj4<|⟨zpr Z Z Z (zbo zcs Z (zbJ (l:=b) (Rd.skip 2 h) i hs h0 hb)),zj4<|trivial⟩,Z,Z,by kernel_rfl,_,Z,Z,Z,_,Do.alloc zaH (cs:=#[vV 0,vV 0]) Z,?_⟩
 rintro _ _ ⟨b1,rfl,rfl⟩
 refine ⟨[(14,vV n),(15,vV ((i:Int) + 2))],Z,?_⟩
 refine ⟨zj4<|zj4<|zj2<|⟨zpr Z Z Z (zbo zcs Z (zbJ (l:=b) (Rd.skip 3 h) i hs h0 hb)),zj4<|trivial⟩,Z,Z,by kernel_rfl,_,Z,Z,Z,_,zaS (H':=O4 b1 0 0::O2 rb A b.length C (i:Int) 0 0::O5 tb (str s0) n1 n2 n3 (str s4)::H) 0 0 zdJ Z Z Z Z Z Z Z Z Z,?_⟩
 rintro _ _ ⟨rfl,rfl⟩
 refine ⟨[],Z,?_⟩
 refine ⟨zk4<|zk4<|zk4<|zjk<|zjk<|zjk<|trivial,by kernel_rfl,?_⟩
 refine At.mono (E':=[(0,pB rb),(1,.pointer (some ⟨tb,1,none⟩)),(5,vV n),(6,vV ((i:Int) + 2)),(7,pB b1)]) ⟨Z,Z,Z,Z,Z,trivial⟩<|a5 ?_
 refine zpk [1,0,2] 3 ?_
 refine zca Z (zd2 (A:=A) (C:=C) (b:=b) (n:=(i:Int) + 2)) ?_
 rintro _ _ ⟨rfl,rfl⟩
 refine a13 ?_
 refine zpk [0,2] 3 ?_
 exact zad Tryz.func89 Z Z (⟨Z,Z⟩)
theorem zyS (h:Rd tyB w0 base H A C b) (hb:b.length≤140737488355328) (i:Nat) {n:Int}(hs:Stands b i (be2 n)) (h0:0≤n∧n≤65535) :
  SCalls Tryz.prog 89 [pB rb,.pointer (some ⟨tb,2,none⟩)] w0 base (O2 rb A b.length C (i:Int) 0 0::O5 tb (str s0) n1 n2 n3 (str s4)::H) (fun v H' => v = pB rb∧H' = (O2 rb A b.length C ((i:Int) + 2) 0 0)::O5 tb (str s0) n1 n n3 (str s4)::H):=by
 have hle0:=h.le
 have hcap0:=h.cap
 refine zaa (n:=35) Tryz.func89 Z Z Z fun cs => ?_
 refine a16 ?_
 refine zaN (es:=[13,16]) (pv:=[(0,pB rb),(1,pB rb),(2,pB rb),(3,.slice A b.length C),(4,pB rb),(5,pB rb),(6,.pointer (some ⟨rb,1,none⟩)),(7,vV (i:Int)),(8,.tuple #[vV n,vV ((i:Int) + 2),.agg #[vV 0,vV 0]]),(9,.tuple #[vV n,vV ((i:Int) + 2),.agg #[vV 0,vV 0]]),(10,vV n),(11,vV ((i:Int) + 2)),(12,.agg #[vV 0,vV 0])]) zaz kW kW kW ?_
 refine ⟨zj4<|zj4<|⟨zpr Z Z Z (zbo zcs Z (zbJ (l:=b) (Rd.skip 2 h) i hs h0 hb)),zj4<|trivial⟩,Z,Z,by kernel_rfl,_,Z,Z,Z,_,Do.alloc zaH (cs:=#[vV 0,vV 0]) Z,?_⟩
 rintro _ _ ⟨b1,rfl,rfl⟩
 refine ⟨[(14,vV n),(15,vV ((i:Int) + 2))],Z,?_⟩
 refine ⟨zj4<|zj4<|zj2<|⟨zpr Z Z Z (zbo zcs Z (zbJ (l:=b) (Rd.skip 3 h) i hs h0 hb)),zj4<|trivial⟩,Z,Z,by kernel_rfl,_,Z,Z,Z,_,zaS (H':=O4 b1 0 0::O2 rb A b.length C (i:Int) 0 0::O5 tb (str s0) n1 n2 n3 (str s4)::H) 0 0 zdJ Z Z Z Z Z Z Z Z Z,?_⟩
 rintro _ _ ⟨rfl,rfl⟩
 refine ⟨[],Z,?_⟩
 refine ⟨zk4<|zk4<|zk4<|zjk<|zjk<|zjk<|trivial,by kernel_rfl,?_⟩
 refine At.mono (E':=[(0,pB rb),(1,.pointer (some ⟨tb,2,none⟩)),(5,vV n),(6,vV ((i:Int) + 2)),(7,pB b1)]) ⟨Z,Z,Z,Z,Z,trivial⟩<|a5 ?_
 refine zpk [1,0,2] 3 ?_
 refine zca Z (zd2 (A:=A) (C:=C) (b:=b) (n:=(i:Int) + 2)) ?_
 rintro _ _ ⟨rfl,rfl⟩
 refine a13 ?_
 refine zpk [0,2] 3 ?_
 exact zad Tryz.func89 Z Z (⟨Z,Z⟩)
theorem zyW {n0:Int}(h:Rd tyB w0 base H A C b) (hb:b.length≤140737488355328) (i:Nat) {n:Int}(hs:Stands b i (be2 n)) (h0:0≤n∧n≤65535) :
  SCalls Tryz.prog 89 [pB rb,pB tb] w0 base (O2 rb A b.length C (i:Int) 0 0::[(tb,.cells #[vV n0] 3 (0,0))]::H) (fun v H' => v = pB rb∧H' = (O2 rb A b.length C ((i:Int) + 2) 0 0)::[(tb,.cells #[vV n] 3 (0,0))]::H):=by
 have hle0:=h.le
 have hcap0:=h.cap
 refine zaa (n:=35) Tryz.func89 Z Z Z fun cs => ?_
 refine a16 ?_
 refine zaN (es:=[13,16]) (pv:=[(0,pB rb),(1,pB rb),(2,pB rb),(3,.slice A b.length C),(4,pB rb),(5,pB rb),(6,.pointer (some ⟨rb,1,none⟩)),(7,vV (i:Int)),(8,.tuple #[vV n,vV ((i:Int) + 2),.agg #[vV 0,vV 0]]),(9,.tuple #[vV n,vV ((i:Int) + 2),.agg #[vV 0,vV 0]]),(10,vV n),(11,vV ((i:Int) + 2)),(12,.agg #[vV 0,vV 0])]) zaz kW kW kW ?_
 refine ⟨zj4<|zj4<|⟨zpr Z Z Z (zbo zcs Z (zbJ (l:=b) (Rd.skip 2 h) i hs h0 hb)),zj4<|trivial⟩,Z,Z,by kernel_rfl,_,Z,Z,Z,_,Do.alloc zaH (cs:=#[vV 0,vV 0]) Z,?_⟩
 rintro _ _ ⟨b1,rfl,rfl⟩
 refine ⟨[(14,vV n),(15,vV ((i:Int) + 2))],Z,?_⟩
 refine ⟨zj4<|zj4<|zj2<|⟨zpr Z Z Z (zbo zcs Z (zbJ (l:=b) (Rd.skip 3 h) i hs h0 hb)),zj4<|trivial⟩,Z,Z,by kernel_rfl,_,Z,Z,Z,_,zaS (H':=O4 b1 0 0::O2 rb A b.length C (i:Int) 0 0::[(tb,.cells #[vV n0] 3 (0,0))]::H) 0 0 zdJ Z Z Z Z Z Z Z Z Z,?_⟩
 rintro _ _ ⟨rfl,rfl⟩
 refine ⟨[],Z,?_⟩
 refine ⟨zk4<|zk4<|zk4<|zjk<|zjk<|zjk<|trivial,by kernel_rfl,?_⟩
 refine At.mono (E':=[(0,pB rb),(1,pB tb),(5,vV n),(6,vV ((i:Int) + 2)),(7,pB b1)]) ⟨Z,Z,Z,Z,Z,trivial⟩<|a5 ?_
 refine zpk [1,0,2] 3 ?_
 refine zca Z (zd2 (A:=A) (C:=C) (b:=b) (n:=(i:Int) + 2)) ?_
 rintro _ _ ⟨rfl,rfl⟩
 refine a13 ?_
 refine zpk [0,2] 3 ?_
 exact zad Tryz.func89 Z Z (⟨Z,Z⟩)
theorem zvH (h:Rd tyB w0 base H A C b) (hb:b.length≤140737488355328) (i:Nat) {n:Int}(hs:Stands b i (be4 n)) (h0:0≤n∧n≤4294967295) :
  SCalls Tryz.prog 90 [pB rb,.pointer (some ⟨tb,3,none⟩)] w0 base (O2 rb A b.length C (i:Int) 0 0::O5 tb (str s0) n1 n2 n3 (str s4)::H) (fun v H' => v = pB rb∧H' = (O2 rb A b.length C ((i:Int) + 4) 0 0)::O5 tb (str s0) n1 n2 n (str s4)::H):=by
 have hle0:=h.le
 have hcap0:=h.cap
 refine zaa (n:=35) Tryz.func90 Z Z Z fun cs => ?_
 refine a16 ?_
 refine zaN (es:=[13,16]) (pv:=[(0,pB rb),(1,pB rb),(2,pB rb),(3,.slice A b.length C),(4,pB rb),(5,pB rb),(6,.pointer (some ⟨rb,1,none⟩)),(7,vV (i:Int)),(8,.tuple #[vV n,vV ((i:Int) + 4),.agg #[vV 0,vV 0]]),(9,.tuple #[vV n,vV ((i:Int) + 4),.agg #[vV 0,vV 0]]),(10,vV n),(11,vV ((i:Int) + 4)),(12,.agg #[vV 0,vV 0])]) zaz kW kW kW ?_
 refine ⟨zj4<|zj4<|⟨zpr Z Z Z (zbo zj8 Z (zpt (l:=b) (Rd.skip 2 h) i hs h0 hb)),zj4<|trivial⟩,Z,Z,by kernel_rfl,_,Z,Z,Z,_,Do.alloc zaH (cs:=#[vV 0,vV 0]) Z,?_⟩
 rintro _ _ ⟨b1,rfl,rfl⟩
 refine ⟨[(14,vV n),(15,vV ((i:Int) + 4))],Z,?_⟩
 refine ⟨zj4<|zj4<|zj2<|⟨zpr Z Z Z (zbo zj8 Z (zpt (l:=b) (Rd.skip 3 h) i hs h0 hb)),zj4<|trivial⟩,Z,Z,by kernel_rfl,_,Z,Z,Z,_,zaS (H':=O4 b1 0 0::O2 rb A b.length C (i:Int) 0 0::O5 tb (str s0) n1 n2 n3 (str s4)::H) 0 0 zdJ Z Z Z Z Z Z Z Z Z,?_⟩
 rintro _ _ ⟨rfl,rfl⟩
 refine ⟨[],Z,?_⟩
 refine ⟨zk4<|zk4<|zk4<|zjk<|zjk<|zjk<|trivial,by kernel_rfl,?_⟩
 refine At.mono (E':=[(0,pB rb),(1,.pointer (some ⟨tb,3,none⟩)),(5,vV n),(6,vV ((i:Int) + 4)),(7,pB b1)]) ⟨Z,Z,Z,Z,Z,trivial⟩<|a5 ?_
 refine zpk [1,0,2] 3 ?_
 refine zca Z (zd2 (A:=A) (C:=C) (b:=b) (n:=(i:Int) + 4)) ?_
 rintro _ _ ⟨rfl,rfl⟩
 refine a13 ?_
 refine zpk [0,2] 3 ?_
 exact zad Tryz.func90 Z Z (⟨Z,Z⟩)
theorem znw (h:Rd tyB w0 base H A C b) (hb:b.length≤140737488355328) (i:Nat) {q:Qn3}(hq:QOk q) (hQ:QAt b i q nx) :
  SCalls Tryz.prog 35 [.slice A b.length C,vV (i:Int)] w0 base (H) (fun v H' => v = .tuple #[.agg #[str q.1,int q.2.1,int q.2.2],int (nx:Int),.agg #[int 0,int 0]]∧H' = H):=by
 have hle0:=h.le
 have hcap0:=h.cap
 have hQ1:=hQ.le
 obtain ⟨j,k,hR,hs,rfl⟩:=hQ
 have hs2:=hs.2
 rw [zC6,zam,zam] at hs2
 have hR1:=hR.le
 refine zaa (n:=37) Tryz.func35 Z Z Z fun cs => ?_
 refine a2 ?_
 refine AtL.alloc zev (cs:=#[str [],vV 0,vV 0]) Z zg0 Z ?_
 intro b1
 refine a1 ?_
 refine AtL.alloc zaH (cs:=#[vV 0,vV 0]) Z zg0 Z ?_
 intro b2
 refine a5 ?_
 refine zak (cs:=[.slice A b.length C,vV (i:Int),vV 0,vV 0]) zlT zg0 Z Z Z<|zaU (cs:=#[.slice A b.length C,vV (i:Int),vV 0,vV 0]) Z zg0 Z Z ?_
 intro b3
 refine a4 ?_
 refine AtL.alloc zev (cs:=#[str [],vV 0,vV 0]) Z zg0 Z ?_
 intro b4
 refine a6 ?_
 refine zpk [1,0,2,3] 4 ?_
 refine zca Z (zvG (b:=b) (Rd.skip 2 h) kQ i hR hq.1.le kQ) ?_
 rintro _ _ ⟨rfl,rfl⟩
 refine a1 ?_
 refine zca Z (zyV (b:=b) (Rd.skip 2 h) kQ j hs.left hq.2.1) ?_
 rintro _ _ ⟨rfl,rfl⟩
 refine a1 ?_
 refine zca Z (zyU (b:=b) (Rd.skip 2 h) kQ (j + 2) hs.right hq.2.2) ?_
 rintro _ _ ⟨rfl,rfl⟩
 refine a13 ?_
 refine zaN (es:=[6,8]) (pv:=[(0,.agg #[str q.1,vV q.2.1,vV q.2.2]),(1,pB b3),(2,pB b3),(3,.pointer (some ⟨b3,1,none⟩)),(4,vV (((j + 2:Nat):Int) + 2)),(5,.agg #[vV 0,vV 0])]) zaz kW kW kW ?_
 refine ⟨⟨zpr Z Z Z (ze8 (cs:=[str q.1,vV q.2.1,vV q.2.2]) zih Z Z (zaw 1 0 0 Z Z Z)),zj4<|⟨zpr Z Z Z (zcc (cs:=[vV 0,vV 0]) zbe Z Z),trivial⟩⟩,Z,Z,by kernel_rfl,_,Z,Z,Z,_,zaS (H':=O2 b3 A b.length C (((j + 2:Nat):Int) + 2) 0 0::[(b4,.cells #[str q.1,vV q.2.1,vV q.2.2] 77 (0,0))]::O4 b2 0 0::[(b1,.cells #[str q.1,vV q.2.1,vV q.2.2] 77 (0,0))]::H) 3 0 zfp Z Z Z Z Z Z Z Z Z,?_⟩
 rintro _ _ ⟨rfl,rfl⟩
 refine ⟨[(7,vV (((j + 2:Nat):Int) + 2))],Z,?_⟩
 refine ⟨zjz<|zjk<|zj4<|⟨zpr Z Z Z (zcc (cs:=[vV 0,vV 0]) zbe Z Z),trivial⟩,Z,Z,by kernel_rfl,_,Z,Z,Z,_,zaS (H':=O2 b3 A b.length C (((j + 2:Nat):Int) + 2) 0 0::[(b4,.cells #[str q.1,vV q.2.1,vV q.2.2] 77 (0,0))]::O4 b2 0 0::[(b1,.cells #[str q.1,vV q.2.1,vV q.2.2] 77 (0,0))]::H) 2 0 zdJ Z Z Z Z Z Z Z Z Z,?_⟩
 rintro _ _ ⟨rfl,rfl⟩
 refine ⟨[],Z,?_⟩
 refine ⟨zk4<|zjk<|zjk<|zjk<|trivial,by kernel_rfl,?_⟩
 refine At.mono (E':=[(4,pB b1),(5,vV (((j + 2:Nat):Int) + 2)),(6,pB b2)]) ⟨Z,Z,Z,trivial⟩ ?_
 exact zaE (vs:=[.agg #[str q.1,vV q.2.1,vV q.2.2],vV (((j + 2:Nat):Int) + 2),.agg #[vV 0,vV 0]]) [] 4 Z Z Tryz.func35 Z ⟨⟨_,Z,LoadsTo.agg (cs:=[str q.1,vV q.2.1,vV q.2.2]) zih Z (zaw 3 0 0 Z Z Z)⟩,Z,⟨_,Z,LoadsTo.agg (cs:=[vV 0,vV 0]) zbi Z (zaw 2 0 0 Z Z Z)⟩,trivial⟩ (⟨by first | rfl | (simp only [Nat.cast_add]; rfl) | (congr 1),Z⟩)
theorem zhh (h:Rd tyB w0 base H A C b) (hb:b.length≤140737488355328) (i:Nat) {x:Rc5}(hx:ROk x) (hX:RAt b i x nx) :
  SCalls Tryz.prog 36 [.slice A b.length C,vV (i:Int)] w0 base (H) (fun v H' => v = .tuple #[.agg #[str x.1,int x.2.1,int x.2.2.1,int x.2.2.2.1,str x.2.2.2.2],int (nx:Int),.agg #[int 0,int 0]]∧H' = H):=by
 have hle0:=h.le
 have hcap0:=h.cap
 have hX1:=hX.le
 obtain ⟨j,k,sz,hR,hs,hD,rfl⟩:=hX
 have hs2:=hs.2
 simp only [zC6,zam,za3] at hs2
 have hR1:=hR.le
 have hD1:=hD.1; have hD2:=hD.2.1; have hx3:=hx.2.2.2.1
 refine zaa (n:=68) Tryz.func36 Z Z Z fun cs => ?_
 refine a2 ?_
 refine AtL.alloc zbg (cs:=#[str [],vV 0,vV 0,vV 0,str []]) Z zg0 Z ?_
 intro b1
 refine a1 ?_
 refine AtL.alloc zaH (cs:=#[vV 0,vV 0]) Z zg0 Z ?_
 intro b2
 refine a5 ?_
 refine zak (cs:=[.slice A b.length C,vV (i:Int),vV 0,vV 0]) zlT zg0 Z Z Z<|zaU (cs:=#[.slice A b.length C,vV (i:Int),vV 0,vV 0]) Z zg0 Z Z ?_
 intro b3
 refine a4 ?_
 refine AtL.alloc zbg (cs:=#[str [],vV 0,vV 0,vV 0,str []]) Z zg0 Z ?_
 intro b4
 refine a3 ?_
 refine AtL.alloc zdb (cs:=#[vV 0]) Z zg0 Z ?_
 intro b5
 refine a7 ?_
 refine zpk [2,1,0,3,4] 5 ?_
 refine zca Z (zvF (b:=b) (Rd.skip 3 h) kQ i hR hx.1.le kQ) ?_
 rintro _ _ ⟨rfl,rfl⟩
 refine a1 ?_
 refine zca Z (zyT (b:=b) (Rd.skip 3 h) kQ j hs.left.left hx.2.1) ?_
 rintro _ _ ⟨rfl,rfl⟩
 refine a1 ?_
 refine zca Z (zyS (b:=b) (Rd.skip 3 h) kQ (j + 2) (hs.left.right) hx.2.2.1) ?_
 rintro _ _ ⟨rfl,rfl⟩
 refine a1 ?_
 refine zca Z (zvH (b:=b) (Rd.skip 3 h) kQ (j + 4) (hs.right.left) ⟨hx.2.2.2.1.1,by have:=hx.2.2.2.1.2; omega⟩) ?_
 rintro _ _ ⟨rfl,rfl⟩
 refine zpk [0,2,1,3,4] 5 ?_
 refine zca Z (zyW (b:=b) (Rd.skip 3 h) kQ (j + 8) (hs.right.right) ⟨by omega,by have:=hD.2.1; omega⟩) ?_
 rintro _ _ ⟨rfl,rfl⟩
 refine a13 ?_
 refine zaN (es:=[12,14]) (pv:=[(0,.slice A b.length C),(1,pB b3),(2,pB b3),(3,.pointer (some ⟨b3,1,none⟩)),(4,vV (((j + 8:Nat):Int) + 2)),(5,vV (sz:Int)),(6,.pointer (some ⟨b4,1,none⟩)),(7,vV x.2.1),(8,.tuple #[str x.2.2.2.2,.agg #[vV 0,vV 0]]),(9,.tuple #[str x.2.2.2.2,.agg #[vV 0,vV 0]]),(10,str x.2.2.2.2),(11,.agg #[vV 0,vV 0])]) zaz kW kW kW ?_
 refine ⟨zj4<|zj4<|⟨zpr Z Z Z (zbo zlV Z (zoN (b:=b) (Rd.skip 5 h) (j + 10) sz hD hx.2.2.2.2 hb)),zj2<|zjz<|trivial⟩,Z,Z,by kernel_rfl,_,Z,Z,Z,_,Do.alloc zaH (cs:=#[vV 0,vV 0]) Z,?_⟩
 rintro _ _ ⟨b6,rfl,rfl⟩
 refine ⟨[(13,str x.2.2.2.2)],Z,?_⟩
 refine ⟨zj4<|zj4<|zjz<|⟨zpr Z Z Z (zbo zlV Z (zoN (b:=b) (Rd.skip 6 h) (j + 10) sz hD hx.2.2.2.2 hb)),zj2<|zjz<|trivial⟩,Z,Z,by kernel_rfl,_,Z,Z,Z,_,zaS (H':=O4 b6 0 0::O2 b3 A b.length C (((j + 8:Nat):Int) + 2) 0 0::[(b5,.cells #[vV (sz:Int)] 3 (0,0))]::O5 b4 (str x.1) x.2.1 x.2.2.1 x.2.2.2.1 (str [])::O4 b2 0 0::O5 b1 (str []) 0 0 0 (str [])::H) 0 0 zdJ Z Z Z Z Z Z Z Z Z,?_⟩
 rintro _ _ ⟨rfl,rfl⟩
 refine ⟨[],Z,?_⟩
 refine ⟨zk4<|zk4<|zk4<|zjk<|trivial,by kernel_rfl,?_⟩
 refine At.mono (E':=[(4,pB b1),(6,pB b2),(7,pB b3),(8,pB b4),(9,pB b5),(10,str x.2.2.2.2),(11,pB b6)]) ⟨Z,Z,Z,Z,Z,Z,Z,trivial⟩<|a22 ?_
 refine zao false Z (zDl kQ)<|a2 ?_
 refine zaN (es:=[8,10]) (pv:=[(0,.agg #[str x.1,vV x.2.1,vV x.2.2.1,vV x.2.2.2.1,str x.2.2.2.2]),(1,pB b3),(2,pB b3),(3,.pointer (some ⟨b3,1,none⟩)),(4,vV (((j + 8:Nat):Int) + 2)),(5,vV (sz:Int)),(6,vV ((((j + 8:Nat):Int) + 2) + (sz:Int))),(7,.agg #[vV 0,vV 0])]) zaz kW kW kW ?_
 refine ⟨⟨zpr Z Z Z (ze8 (cs:=[str x.1,vV x.2.1,vV x.2.2.1,vV x.2.2.2.1,str x.2.2.2.2]) zbF Z Z (zaw 3 0 0 Z Z Z)),zj4<|zjz<|⟨zpr Z Z Z (Do.add (z:=(((j + 8:Nat):Int) + 2) + (sz:Int)) Z Z (w64 kQ kQ)),⟨zpr Z Z Z (zcc (cs:=[vV 0,vV 0]) zbe Z Z),trivial⟩⟩⟩,Z,Z,by kernel_rfl,_,Z,Z,Z,_,zaS (H':=O4 b6 0 0::O2 b3 A b.length C (((j + 8:Nat):Int) + 2) 0 0::[(b5,.cells #[vV (sz:Int)] 3 (0,0))]::O5 b4 (str x.1) x.2.1 x.2.2.1 x.2.2.2.1 (str x.2.2.2.2)::O4 b2 0 0::O5 b1 (str x.1) x.2.1 x.2.2.1 x.2.2.2.1 (str x.2.2.2.2)::H) 5 0 zbs Z Z Z Z Z Z Z Z Z,?_⟩
 rintro _ _ ⟨rfl,rfl⟩
 refine ⟨[(9,vV ((((j + 8:Nat):Int) + 2) + (sz:Int)))],Z,?_⟩
 refine ⟨zjz<|zjk<|zj4<|zjz<|⟨zpr Z Z Z (Do.add (z:=(((j + 8:Nat):Int) + 2) + (sz:Int)) Z Z (w64 kQ kQ)),⟨zpr Z Z Z (zcc (cs:=[vV 0,vV 0]) zbe Z Z),trivial⟩⟩,Z,Z,by kernel_rfl,_,Z,Z,Z,_,zaS (H':=O4 b6 0 0::O2 b3 A b.length C (((j + 8:Nat):Int) + 2) 0 0::[(b5,.cells #[vV (sz:Int)] 3 (0,0))]::O5 b4 (str x.1) x.2.1 x.2.2.1 x.2.2.2.1 (str x.2.2.2.2)::O4 b2 0 0::O5 b1 (str x.1) x.2.1 x.2.2.1 x.2.2.2.1 (str x.2.2.2.2)::H) 4 0 zdJ Z Z Z Z Z Z Z Z Z,?_⟩
 rintro _ _ ⟨rfl,rfl⟩
 refine ⟨[],Z,?_⟩
 refine ⟨zk4<|zk4<|zjk<|trivial,by kernel_rfl,?_⟩
 refine At.mono (E':=[(4,pB b1),(5,vV ((((j + 8:Nat):Int) + 2) + (sz:Int))),(6,pB b2)]) ⟨Z,Z,Z,trivial⟩ ?_
 exact zaE (vs:=[.agg #[str x.1,vV x.2.1,vV x.2.2.1,vV x.2.2.2.1,str x.2.2.2.2],vV ((((j + 8:Nat):Int) + 2) + (sz:Int)),.agg #[vV 0,vV 0]]) [] 6 Z Z Tryz.func36 Z ⟨⟨_,Z,LoadsTo.agg (cs:=[str x.1,vV x.2.1,vV x.2.2.1,vV x.2.2.2.1,str x.2.2.2.2]) zbF Z (zaw 5 0 0 Z Z Z)⟩,Z,⟨_,Z,LoadsTo.agg (cs:=[vV 0,vV 0]) zbi Z (zaw 4 0 0 Z Z Z)⟩,trivial⟩ (⟨by first | rfl | (congr 1),Z⟩)
end Go.Proofs.YtjmnjkoekabioaaGreatDoor
