/- Parts of the proof. -/
import Derived.Test.YtjmnjkoekabioaaGreatDoorQC07
namespace Go.Proofs.YtjmnjkoekabioaaGreatDoor
set_option maxHeartbeats 4000000
open Go.RowKit (Below)
set_option linter.unusedVariables false
set_option linter.unusedSimpArgs false
variable {xs:Array Operand}{ts:Array TypeId}{a:Array Value}{B B':BB}{k:Bk}{b:Bool}{cl:Callee}{body:Code}{E E' V V' pv xv:Env}{g:FuncId}{h h' h2:LH}{lo:LO}{lv s v2:LV}{c:LV→Nat→LH→Res}{es:List (LV×LV)}{oth:List (Nat×Oper)}{ds:List Deferred}{cs:List Frame}{todo:List Item}{bs:List Nat}{H:List Seg}{us:List Value}{st:LoopState}{m:Machine}{base clock i j l n nx nx' nx2:Nat}{obj:Obj}{op:Op}{o:Oper}{x:Operand}{p:Option (Option Nat)}{jump pend:Option Code}{P:Program}{X:Pt}{e t:TypeId}{u vs:Value}{R:Value→List Seg→Prop}{w w' w0:World}
variable {G:List (Nat×Obj)}
section
variable {X:Pt}{E:Env}{H:List Seg}{B:BB}{h h' : LH}{cx:Cx}{f:SlF}{lv:LV}{nx nx' : Nat}
variable {ts:Array TypeId}{ty t t2 e:TypeId}{vx:Value}{n m:Nat}{news:List Value}
def AppR (G:List (Nat×Obj)) (X:Pt) (ts:Array TypeId) (ty:TypeId) (w:World) (vs vx:Value) (B:BB) (lv:LV) (nx' : Nat) (h' : LH):Prop :=
 ∃ v w' H',(Builtin.append_ ts ty #[vs,vx]).run X.P w = .ok v w'∧Sep X.w0 X.base w' H'∧MR G B lv nx' h' v H'
theorem znX {cs:Array Value}{e0:TypeId}{fr:Nat×Nat}(hor:OR B k (.cells cs e0 fr) lo):cs.size=k.size∧frOut fr cs.size∧(∀ c ∈ cs.toList,c.oneCell' = true)∧((∃ s l t,lo = .rows s l t)→fr=(0,0)):=by
 cases lo with
 | rows s l t => obtain ⟨cs',e',h1,h2,h3,h4,h5,h6,_⟩:=hor; cases h1; exact ⟨h4,zaY _,h6,fun _ => rfl⟩
 | bytes l x => obtain ⟨cs',e',fr',l',h1,h3,h4,h5,h6,h7,_⟩:=hor; grind
 | gone => exact hor.elim
 | map _ _ es => obtain ⟨_,h,_⟩:=hor; cases h
 | iter _ _ _ _ => obtain ⟨_,_,_,h,_⟩:=hor; cases h
 | loop _ _ _ _ _ _ _ _ => obtain ⟨_,h,_⟩:=hor; cases h
 | defd _ => obtain ⟨_,h,_⟩:=hor; cases h
theorem zAP (hn:B.length=nx) (hr:HR G B h H) {new:yB}(ha:App X H ts t t2 e vx n (new.map byt)) (hl:new.length=n) (hs1:(mkTI X.P e).sz=1) (hm:m < 1000000) (hn0:0 < n) {zv:Value}(hz:∀ w,(zeroValue e).run X.P w = .ok zv w) (hz1:∀ c ∈ zv.cells.toList,c.oneCell' = true) (hzs:zv.cells.size=(mkTI X.P e).sz)
  (hv:VR B s vs) (hlen:zeH s=some m) (hq:appN s m n (zaf new) nx h = .ok lv nx' h') (S:Sep X.w0 X.base w H):AppR G X ts ty w vs vx B lv nx' h':=by
 have byLo:∀ (o:yB),o.length=m→LOR B (mkTI X.P e).sz (o.map byt++new.map byt) (.bytes (m + n) (catN m (zaf o) (zaf new))):=fun o ho =>
  ⟨hs1,o++new,by grind,by rw [zec,ho]; rfl,by grind,by grind [List.take_of_length_le]⟩
 have one:∀ (o:yB),∀ c ∈ o.map byt,c.oneCell' = true:=fun o c hc => by obtain ⟨u,_,rfl⟩:=zDC.1 hc; rfl
 unfold appN at hq
 split at hq
 ·simp only [zeH] at hlen; cases hlen
  simp only [VR] at hv; subst hv
  unfold zqq at hq
  rw [zaV] at hq
  obtain ⟨rfl,rfl,rfl⟩:=zcT hq
  have:=zjq (ty:=ty) ha hr hn S (A:=none) (C:=0) (m:=0) kQ kQ hz hz1 hzs (old:=[]) kY kY (fun w S => by simp [Builtin.firstCells]) (byLo [] rfl)
  simp only [zEi] at this
  rw [show catN 0 (zaf []) (zaf new)=zaf new by grind [catN,zaf]] at this
  exact this
 ·rename_i i o len c
  simp only [zeH] at hlen; cases hlen
  simp only [VR] at hv
  obtain ⟨k,hk,rfl⟩:=hv
  split at hq
  ·rename_i hle
   have hle:=zaP.1 hle
   obtain ⟨lo,hw,rfl,rfl,rfl⟩:=zgu hq
   rw [zaV]
   rw [← hl] at hw
   have hoo:∀ obj,OR B k obj (atB h i)→∃ cs e0 fr,obj = .cells cs e0 fr∧k.off + (o + m * (mkTI X.P e).sz) + (new.map byt).length≤cs.size∧frOut fr cs.size∧OR B k (.cells (zbH cs (k.off + (o + m * (mkTI X.P e).sz)) (new.map byt)) e0 fr) lo:=by
    intro obj hor
    rw [hs1,zGm]
    obtain ⟨cs,e0,fr,h1,h2,h3,h4⟩:=hor.writeM hw
    grind
   refine zpQ ha hr hn S hk (ze0 hw) hle hoo (by simp only [VR]; grind)
  ·rename_i hle
   have hle:¬ m + n≤c:=fun h' => by
    have h2:Nat.ble (Nat.add m n) c=true:=zaP.2 h'
    grind
   split at hq
   ·rename_i z hzz
    rw [zaV] at hq
    unfold zqq at hq
    rw [zaV] at hq
    obtain ⟨rfl,rfl,rfl⟩:=zcT hq
    have hvv:VR B (.sl i o m c) (.slice (some ⟨k.b,k.off + o,none⟩) m c):=by simp only [VR]; grind
    obtain ⟨ob,o1,o2,_,_⟩:=zgV (w0:=X.w0) (base:=X.base) (P:=X.P) hr hzz (m:=m) rfl (zDe _) hvv
    have o3:∀ w,Sep X.w0 X.base w H→(Builtin.firstCells (mkTI X.P e).sz m (.slice (some ⟨k.b,k.off + o,none⟩) m c)).run X.P w = .ok (ob.map byt).toArray w:=by
     grind
    have:=zjq (ty:=ty) ha hr hn S hm hle hz hz1 hzs (old:=ob.map byt) (one ob) (by grind) o3 (byLo ob o1)
    rw [o2] at this
    exact this
   grind
 ·rename_i i o len ad
  simp only [zeH] at hlen; cases hlen
  simp only [VR] at hv
  obtain ⟨k,c,A,hk,rfl,q1,q2,q3,q4,q5⟩:=hv
  split at hq
  ·rename_i hsb
   have hsb:=zar.1 hsb
   have hi:zbA (atB h i)=true:=znO kQ
   obtain ⟨k',jj,obj,a1,a2,a3⟩:=hr.at_ i hi
   rw [hk] at a1; cases a1
   obtain ⟨c1,c2⟩:=znR a3 (Nat.one_pos) hsb.symm
   split at hq
   ·rename_i hle
    have hle:o + (m + n)≤zgg (atB h i):=zaP.1 hle
    obtain ⟨lo,hw,rfl,rfl,rfl⟩:=zgu hq
    rw [zaV]
    rw [← hl] at hw
    rw [c1,zGm] at q2
    have hroom:m + n≤c:=by omega
    have hAe:=q3 kQ
    subst hAe
    have hoo:∀ obj,OR B k obj (atB h i)→∃ cs e0 fr,obj = .cells cs e0 fr∧k.off + (o + m * (mkTI X.P e).sz) + (new.map byt).length≤cs.size∧frOut fr cs.size∧OR B k (.cells (zbH cs (k.off + (o + m * (mkTI X.P e).sz)) (new.map byt)) e0 fr) lo:=by
     intro obj hor
     rw [hs1,zGm]
     obtain ⟨cs,e0,fr,h1,h2,h3,h4⟩:=hor.writeM hw
     grind
    refine zpQ ha hr hn S hk (ze0 hw) hroom hoo (by simp only [VR]; grind)
   ·split at hq
    ·rename_i z hkn hzz
     have hkn:zgg (atB h i)=o + m:=zar.1 hkn
     rw [zb5,zaV] at hq
     unfold zqq at hq
     rw [zaV] at hq
     obtain ⟨rfl,rfl,rfl⟩:=zcT hq
     refine zpP (lo:=.bytes (m + n) (catN m z (zaf new))) ha hr hn S hk hi hm hn0 q1 q5 (c1.trans hs1.symm) q2 q3 hz hz1 hzs (fun obj hor => ?_)
     obtain ⟨cs,e0,fr,l,rfl,l1,l2,l3⟩:=hor.readN hzz
     obtain ⟨f1,f2,f3,_⟩:=znX hor
     grind
    grind
  grind
 grind
theorem zv8 {lo':LO}{sz o:Nat}{l:List LV}(hor:OR B k obj lo) (hsb:szB lo=sz) (hs0:0 < sz) (hv:VRL B l news) (hl:l.length=n * sz) (hq:zzv sz lo o m n l=some lo') :
  ∃ cs e0,obj = .cells cs e0 (0,0)∧cs.size=k.size∧(∀ c ∈ cs.toList,c.oneCell' = true)∧LOR B sz ((cs.toList.drop (k.off + o)).take (m * sz)++news) lo':=by
 unfold zzv at hq
 split at hq
 ·rename_i s0 len t
  obtain ⟨cs,e0,rfl,h2,h3,h4,h5,h6,h7⟩:=hor
  simp only [szB] at hsb
  subst hsb
  refine ⟨cs,e0,Z,h4,h6,?_⟩
  have hnl:news.length=n * s0:=by rw [hv.len,hl]
  split at hq
  ·rename_i hb
   rw [zC9,zC9] at hb
   have b1:=zar.1 hb.1
   have b2:=zar.1 hb.2.1
   subst b1
   subst b2
   rw [zdY,zaV] at hq
   cases hq
   rw [zDZ]
   have hol:((cs.toList.drop k.off).take (len * s0)).length=len * s0:=by grind
   refine ⟨Z,h2,by grind,fun r hr => ?_⟩
   have hr:r < len + n:=hr
   rw [zeS]
   by_cases hlt:r < len
   ·rw [zDb kQ]
    have hr' : (r + 1) * s0≤len * s0:=zDD _ hlt
    rw [zEk,zGl] at hr'
    rw [zDS kQ,zD0 (by grind)]
    rw [zdc cs.toList (c:=r * s0) (n:=s0) (d:=k.off + r * s0) kQ rfl]
    grind
   ·rw [zDi kQ]
    have hge:len * s0≤r * s0:=zDD _ kQ
    have hnil:((cs.toList.drop k.off).take (len * s0)).drop (r * s0)=[]:=zDn kQ
    rw [zFg,hnil,zDG,hol]
    rw [show r * s0 - len * s0=(r - len) * s0 by grind]
    exact (hv.drop _).take _
  ·split at hq
   ·rename_i z hz
    obtain ⟨r1,r2⟩:=zoU (B:=B) h2 h7 hz
    have hz2:=r1.app hv
    have:mkLO false s0 (z++l)=some lo':=hq
    grind [zd4]
   grind
 grind
theorem zAQ (hn:B.length=nx) (hr:HR G B h H) {l:List LV}(hvl:VRL B l news) (ha:App X H ts t t2 e vx n news) (hm:m < 1000000) (hn0:0 < n) {zv:Value}(hz:∀ w,(zeroValue e).run X.P w = .ok zv w) (hz1:∀ c ∈ zv.cells.toList,c.oneCell' = true) (hzs:zv.cells.size=(mkTI X.P e).sz)
  (hv:VR B s vs) (hlen:zeH s=some m) (hq:appC (mkTI X.P e).sz s m n l nx h = .ok lv nx' h') (S:Sep X.w0 X.base w H):AppR G X ts ty w vs vx B lv nx' h':=by
 have hll:l.length=n * (mkTI X.P e).sz:=by rw [← hvl.len,ha.len]
 unfold appC at hq
 split at hq
 ·simp only [zeH] at hlen; cases hlen
  simp only [VR] at hv; subst hv
  obtain ⟨lo,h1,rfl,rfl,rfl⟩:=zeW hq
  have:=zjq (ty:=ty) (lo:=lo) ha hr hn S (A:=none) (C:=0) (m:=0) kQ kQ hz hz1 hzs (old:=[]) kY kY (fun w S => by simp [Builtin.firstCells]) (zd4 h1 hvl (fun h => by cases h))
  simp only [zEi] at this
  exact this
 ·rename_i i o len c
  simp only [zeH] at hlen; cases hlen
  simp only [VR] at hv
  obtain ⟨k,hk,rfl⟩:=hv
  split at hq
  ·rename_i hle
   have hle:=zaP.1 hle
   obtain ⟨lo,hw,rfl,rfl,rfl⟩:=zet hq
   rw [zaV]
   have hw:zgt (atB h i) (o + m * (mkTI X.P e).sz) l=some lo:=hw
   refine zpQ ha hr hn S hk (zc7 hw) hle (fun obj hor => hor.write hvl ha.one hw) (by simp only [VR]; grind)
  ·rename_i hle
   have hle:¬ m + n≤c:=fun h' => by
    have h2:Nat.ble (Nat.add m n) c=true:=zaP.2 h'
    grind
   split at hq
   ·rename_i z hzz
    rw [zaV] at hq
    obtain ⟨lo,h1,rfl,rfl,rfl⟩:=zeW hq
    have hvv:VR B (.sl i o m c) (.slice (some ⟨k.b,k.off + o,none⟩) m c):=by simp only [VR]; grind
    obtain ⟨ov,o1,o2,o3⟩:=zfD (w0:=X.w0) (base:=X.base) (P:=X.P) hr hzz (m:=m) rfl (zDe _) hvv
    have ol:ov.length=m * (mkTI X.P e).sz:=by
     have h3:=o3 w S
     cases m with
     | zero => simp only [zfE] at hzz; cases hzz; simpa using o1.len
     | succ m =>
      simp only [zfE] at hzz
      obtain ⟨vs,v1,v2,_⟩:=hr.read (w0:=X.w0) (base:=X.base) hzz hk
      have:=v1.len
      rw [o1.len,← this,v2]
      rfl
    exact zjq (ty:=ty) (lo:=lo) ha hr hn S hm hle hz hz1 hzs (old:=ov) o2 ol o3 (zd4 h1 (o1.app hvl) (fun h => by cases h))
   grind
 ·rename_i i o len ad
  simp only [zeH] at hlen; cases hlen
  simp only [VR] at hv
  obtain ⟨k,c,A,hk,rfl,q1,q2,q3,q4,q5⟩:=hv
  split at hq
  ·rename_i hsb
   rw [zC9] at hsb
   have hs0:0 < (mkTI X.P e).sz:=zbd.1 hsb.1
   have hsb:=zar.1 hsb.2
   have hi:zbA (atB h i)=true:=znO kQ
   obtain ⟨k',jj,obj,a1,a2,a3⟩:=hr.at_ i hi
   rw [hk] at a1; cases a1
   obtain ⟨c1,c2⟩:=znR a3 hs0 hsb.symm
   split at hq
   ·rename_i hle
    have hle:o + (m + n) * (mkTI X.P e).sz≤zgg (atB h i):=zaP.1 hle
    obtain ⟨lo,hw,rfl,rfl,rfl⟩:=zet hq
    rw [zaV]
    have hw:zgt (atB h i) (o + m * (mkTI X.P e).sz) l=some lo:=hw
    rw [c1] at q2
    have hroom:m + n≤c:=zFl (by omega:(m + n) * (mkTI X.P e).sz≤c * (mkTI X.P e).sz) hs0
    have hAe:=q3 kQ
    subst hAe
    refine zpQ ha hr hn S hk (zc7 hw) hroom (fun obj hor => hor.write hvl ha.one hw) (by simp only [VR]; grind)
   ·split at hq
    ·unfold optR at hq
     split at hq
     ·rename_i lo hmo
      simp only at hq
      rw [zb5,zaV] at hq
      obtain ⟨rfl,rfl,rfl⟩:=zcT hq
      refine zpP (lo:=lo) ha hr hn S hk hi hm hn0 q1 q5 c1 q2 q3 hz hz1 hzs (fun obj hor => ?_)
      obtain ⟨cs,e0,rfl,f1,f3,f4⟩:=zv8 hor hsb hs0 hvl hll hmo
      exact ⟨cs,e0,(0,0),Z,f1,zaY _,f3,.inr Z,f4⟩
     grind
    grind
  grind
 grind
theorem zn8 (hc:CxOk X.P X.w0 X.base cx) {x:LV}(hk:appK (mkTI X.P t2).kind x=true) (hx:VR B x vx) (hn:lenZ x=some n) : 
  ((∃ k kk,X.P.underlying t2=some (.int k)∧x = .int kk (.ofNat n)∧vx = .int kk (n:Int)))∨((X.P.underlying t2=some .string∨∃ e2,X.P.underlying t2=some (.slice e2))∧lenE x=some n∧(∀ w,(Builtin.lenOf vx).run X.P w = .ok n w)∧∀ k z,x≠.int k z):=by
 cases hkk:(mkTI X.P t2).kind <;> rw [hkk] at hk <;> cases x <;> try (cases hk; done)
 case int.int k kk z =>
  simp only [lenZ] at hn
  cases z with
  | ofNat m => cases hn; simp only [VR] at hx; exact .inl ⟨k,kk,zqD hkk,rfl,hx⟩
  | negSucc m => cases hn
 case str.str len y =>
  have hn:lenE (.str len y)=some n:=hn
  refine .inr ⟨.inl (zmq hkk),hn,fun w => ?_,fun k z h => by cases h⟩
  simp only [lenE] at hn; cases hn
  simp only [VR] at hx; obtain ⟨l,rfl,rfl,_⟩:=hx
  simp [str,Builtin.lenOf,zba]
 case slice.nils e2 =>
  refine .inr ⟨.inr ⟨e2,(zbX hkk).1⟩,hn,fun w => ?_,fun k z h => by cases h⟩
  have hn:lenE .nils=some n:=hn
  simp_all [lenE,VR,Builtin.lenOf]
 case slice.sle e2 =>
  refine .inr ⟨.inr ⟨e2,(zbX hkk).1⟩,hn,fun w => ?_,fun k z h => by cases h⟩
  have hn:lenE .sle=some n:=hn
  simp only [lenE] at hn; cases hn
  simp only [VR] at hx; obtain ⟨A,c,rfl⟩:=hx; simp [Builtin.lenOf]
 case slice.sl e2 i o len c =>
  refine .inr ⟨.inr ⟨e2,(zbX hkk).1⟩,hn,fun w => ?_,fun k z h => by cases h⟩
  have hn:lenE (.sl i o len c)=some n:=hn
  simp only [lenE] at hn; cases hn
  simp only [VR] at hx; obtain ⟨k,_,rfl⟩:=hx; simp [Builtin.lenOf]
 case slice.slo e2 i o len ad =>
  refine .inr ⟨.inr ⟨e2,(zbX hkk).1⟩,hn,fun w => ?_,fun k z h => by cases h⟩
  have hn:lenE (.slo i o len ad)=some n:=hn
  simp only [lenE] at hn; cases hn
  simp only [VR] at hx; obtain ⟨k,c,A,_,rfl,_⟩:=hx; simp [Builtin.lenOf]
theorem len0 {m:Nat}(hc:zCw s=true) (hl:zeH s=some m) (hv:VR B s vs):∃ A C,vs = .slice A m C∧m≤C:=by
 cases s <;> simp only [zeH] at hl <;> try (cases hl; done)
 case nils => cases hl; simp_all [VR,zDe]
 case sle => cases hl; simp only [VR] at hv; grind
 case sl i o len c => cases hl; simp only [VR] at hv; obtain ⟨k,_,rfl⟩:=hv; exact ⟨_,c,rfl,zaP.1 hc⟩
 case slo i o len ad => cases hl; simp only [VR] at hv; grind
theorem zuw (hc:CxOk X.P X.w0 X.base cx) (hr:HR G B h H) (hn:B.length=nx) (hE:ER B f E) {t2:TypeId}{rest:List TypeId}(hts:ts.toList=t::t2::rest) (hk:(mkTI X.P t).kind = .slice e) {x:LV}(hxs:evL xs.toList f=[s,x]) (hd:defd (evL xs.toList f)=true)
  (hK:appK (mkTI X.P t2).kind x=true) (hq:zn7 cx e s x nx h = .ok lv nx' h'):MoOk G X E H B (.call ⟨.builtin .append,xs,ts⟩) lv nx' h':=by
 obtain ⟨us,u1,u2⟩:=zgi hE xs.toList (zdR hd)
 rw [hxs] at u2
 simp only [VRL] at u2
 obtain ⟨vs,us,rfl,hvs,vx,us',rfl,hvx,rfl⟩:=u2
 have ht:ts[0]? = some t:=by rw [← zDE,hts]; rfl
 have ht2:ts[1]? = some t2:=by rw [← zDE,hts]; rfl
 obtain ⟨hu,hke⟩:=zbX hk
 suffices hh:∀ w ty,Sep X.w0 X.base w H→AppR G X ts ty w vs vx B lv nx' h' by
  refine zcg u1 fun w ty consts S => ?_
  obtain ⟨v,w',H',r1,r2,r3⟩:=hh w ty S
  exact ⟨v,w',H',by simp_all [builtin,Sem.run_bind],r2,r3⟩
 intro w ty S
 unfold zn7 at hq
 rw [hc.ty] at hq
 split at hq
 ·rename_i m n hm hnx
  split at hq
  ·split at hq
   ·rename_i hcap
    cases hq
    obtain ⟨A,C,rfl,hmC⟩:=len0 hcap hm hvs
    refine ⟨.slice A m C,w,H,?_,S,B,zDj _,hn,hvs,hr⟩
    obtain ⟨io,hio,hsz,hby⟩:=zbR hke
    rcases zn8 hc hK hvx hnx with ⟨k,kk,h2,rfl,rfl⟩ | ⟨h2,hl,hlen,_⟩
    ·have hasi:∀ w,(asInt (.int kk (0:Int))).run X.P w = .ok (0:Int) w:=fun w => by simp [asInt,asIntOf]
     have hw0:IntKind.i64.wrap 0=0:=by decide
     cases A <;> simp [Builtin.append_,ht,ht2,run_underlying hu,run_underlying h2,zbG hke,hasi,hw0,typeInfo,hio,hmC,storeCells]
    ·have hf:(Builtin.firstCells (mkTI X.P e).sz 0 vx).run X.P w = .ok #[] w:=by
      obtain ⟨vs0,a1,a2,a3⟩:=zfD (w0:=X.w0) (base:=X.base) (P:=X.P) hr (s:=(mkTI X.P e).sz) (n:=0) (l:=[]) (by simp [zfE]) hl (zDe _) hvx
      grind [VRL]
     have hlen:=hlen w
     cases A <;> rcases h2 with h2 | ⟨e2,h2⟩ <;> simp [Builtin.append_,ht,ht2,run_underlying hu,run_underlying h2,zbG hke,hlen,hf,hmC,storeCells]
   grind
  ·rename_i n'
   split at hq
   ·rename_i hb
    simp only [zC9] at hb
    obtain ⟨b1,b2,b3,b4⟩:=hb
    have b1:=zbd.1 b1
    have b2:=zbd.1 b2
    have b3:=zbd.1 b3
    obtain ⟨zc,hzc⟩:∃ z,cells (mkTI X.P e).zero=some z:=by
     grind [hasZ]
    have hzn:(mkTI X.P e).zero≠.undef:=fun e => by rw [e] at hzc; cases hzc
    obtain ⟨_,zv,z1,z2,z3,z4⟩:=zck (P:=X.P) (t:=e) B hzn
    have hz1:=(zb0 z3 hzc).2
    unfold appS at hq
    split at hq
    ·rename_i hby
     rw [zC9] at hby
     obtain ⟨s1,s2,s3⟩:=zfK hc hby.1
     have hz0:=zyd hby.2
     split at hq
     ·rename_i y hy
      have hnews:∃ new:yB,new.length=n' + 1∧zaf new=y∧AppX X.P X.w0 X.base H e t2 (mkTI X.P e).sz vx (n' + 1) (new.map byt):=by
       rcases zn8 hc hK hvx hnx with ⟨k,kk,h2,rfl,rfl⟩ | ⟨h2,hl,hlen,hni⟩
       ·simp only [zedN] at hy
        cases hy
        rw [hz0] at z3
        simp only [VR] at z3
        subst z3
        exact ⟨List.replicate (n' + 1) 0,by simp,zix _,.inr ⟨k,kk,_,h2,Z,b1,z1,z4,(zjT _).symm⟩⟩
       ·have hy:zd7 h (n' + 1) x=some y:=by
         cases x <;> first | exact hy | grind
        obtain ⟨l,l1,l2,l3,_⟩:=zgV (w0:=X.w0) (base:=X.base) (P:=X.P) hr hy hl (zDe _) hvx
        exact ⟨l,l1,l2,.inl ⟨h2,hlen,by grind⟩⟩
      obtain ⟨new,n1,n2,n3⟩:=hnews
      subst n2
      exact zAP hn hr (⟨ht,ht2,hu,hke,n3,b3,b1,fun c hc => by obtain ⟨u,_,rfl⟩:=zDC.1 hc; rfl,by grind⟩) n1 s1 b2 kQ z1 hz1 z4 hvs hm hq S
     grind
    ·split at hq
     ·rename_i l hl0
      split at hq
      ·rename_i hll
       have hll:=zar.1 hll
       have hnews:∃ news:List Value,VRL B l news∧(∀ c ∈ news,c.oneCell' = true)∧AppX X.P X.w0 X.base H e t2 (mkTI X.P e).sz vx (n' + 1) news:=by
        rcases zn8 hc hK hvx hnx with ⟨k,kk,h2,rfl,rfl⟩ | ⟨h2,hl,hlen,hni⟩
        ·simp only [zedE] at hl0
         split at hl0
         ·rename_i z hz
          cases hl0
          obtain ⟨c1,c2⟩:=zb0 z3 hz
          exact ⟨_,c1.rep _,ziP c2 _,.inr ⟨k,kk,zv,h2,Z,b1,z1,z4,Z⟩⟩
         grind
        ·have hl0:zfE h (mkTI X.P e).sz (n' + 1) x=some l:=by
          cases x <;> first | exact hl0 | grind
         obtain ⟨vs0,a1,a2,a3⟩:=zfD (w0:=X.w0) (base:=X.base) (P:=X.P) hr hl0 hl (zDe _) hvx
         exact ⟨vs0,a1,a2,.inl ⟨h2,hlen,a3⟩⟩
       obtain ⟨news,n1,n2,n3⟩:=hnews
       exact zAQ hn hr n1 (⟨ht,ht2,hu,hke,n3,b3,b1,n2,by rw [n1.len]; omega⟩) b2 kQ z1 hz1 z4 hvs hm hq S
      grind
     grind
   grind
 grind
end
variable {G:List (Nat×Obj)}
section
variable {X:Pt}{E:Env}{H:List Seg}{B:BB}{h h' : LH}{cx:Cx}{f:SlF}{lv:LV}{nx nx' : Nat}
theorem zuC (hr:HR G B h H) (hn:B.length=nx) (b:Nat) {v:Value}(hor:OR B ⟨b,0,0,0⟩ obj lo) (hv:VR (B++[⟨b,0,0,0⟩]) lv v):MR G B lv (nx + 1) (Tr.set .gone lo h nx) v ([(b,obj)]::H) :=
 ⟨_,zDR _ _,by grind,hv,hr.new hn (k:=⟨b,0,0,0⟩) (hor.mono (zDR _ _))⟩
theorem zvR (hc:CxOk X.P X.w0 X.base cx) (hr:HR G B h H) (hn:B.length=nx) (hE:ER B f E) (hq:zr8 (cx.ty t).kind (evO x f) nx h = .ok lv nx' h'):MoOk G X E H B (.range t x) lv nx' h':=by
 rw [hc.ty] at hq
 unfold zr8 at hq
 split at hq
 ·rename_i k e hk hx
  obtain ⟨rfl,rfl,rfl⟩:=zcT hq
  obtain ⟨vx,x1,x2⟩:=hE.ev x (by grind)
  rw [hx] at x2; simp only [VR] at x2; subst x2
  have hu:=(zjN hk).1
  exact zaq Z fun dst ty pos after g ρ w hρ S => ⟨pB w.heap.size,_,_,by simp_all [execOp,Instr.range,run_underlying],S.alloc (.mapIter none 0 #[] 0),
   zuC hr hn _ ⟨Z,none,#[],Z,Z,Z⟩ (by simp only [VR]; simp_all)⟩
 ·rename_i k e i hk hx
  split at hq
  ·rename_i clock bs es hm
   obtain ⟨rfl,rfl,rfl⟩:=zcT hq
   obtain ⟨vx,x1,x2⟩:=hE.ev x (by grind)
   rw [hx] at x2; simp only [VR] at x2
   obtain ⟨km,hkm,rfl⟩:=x2
   have hu:=(zjN hk).1
   obtain ⟨jm,ents,b1,b2,b3⟩:=hr.map hm hkm
   refine zaq Z fun dst ty pos after g ρ w hρ S => ?_
   have hb:=(S.at_ b1 (j:=0) rfl).1
   exact ⟨pB w.heap.size,_,_,by simp [execOp,hρ _ _ x1,Instr.range,run_underlying hu,za0 hb],S.alloc (.mapIter (some km.b) clock #[] clock),
    zuC hr hn _ ⟨Z,some km.b,#[],Z,Z,km,hkm,Z⟩ (by simp only [VR]; grind)⟩
  grind
 grind
def LR (B:BB):List (Nat×LV×LV)→List MapEntry→Prop
 | [],m => m=[]
 | q::l,m => ∃ e m',m=e::m'∧e.born=q.1∧VR B q.2.1 e.key∧VR B q.2.2 e.val∧LR B l m'
theorem zle (n:Nat):∀ l:List Nat,memN l n=l.contains n
 | [] => rfl
 | m::l => by
  simp only [memN,List.contains_cons]
  cases hb:Nat.beq m n with
  | true => have:=zar.1 hb; subst this; simp
  | false =>
   have:¬ n=m:=fun e => by rw [zar.2 e.symm] at hb; cases hb
   simp only [zle n l]
   simp [this]
theorem zpg {seen:List Nat}:∀ {bs:List Nat}{es:List (LV×LV)}{m:List MapEntry},m.map (·.born)=bs→MRL B es m→LR B (zsT seen bs es) (m.filter fun e => !seen.contains e.born)
 | [],es,m,hb,hm => by
  simp only [List.map_eq_nil_iff] at hb
  subst hb
  cases es <;> rfl
 | c::bs,[],m,hb,hm => by
  grind [MRL]
 | c::bs,p::es,m,hb,hm => by
  obtain ⟨k,v⟩:=p
  simp only [MRL] at hm
  obtain ⟨e,m',rfl,h1,h2,h3⟩:=hm
  simp only [zDo,zD2] at hb
  have ih:=zpg (seen:=seen) hb.2 h3
  simp only [zsT,zle]
  cases hs:seen.contains c with
  | true =>
   grind
  | false =>
   simp only
   rw [List.filter_cons_of_pos (by grind)]
   exact ⟨e,_,rfl,hb.1,h1,h2,ih⟩
theorem zmh {l:List Nat}:zzi l=l.isEmpty:=by cases l <;> rfl
theorem zzr (hr:HR G B h H) (hn:B.length=nx) (hE:ER B f E) (hq:zzs (evO x f) nx h = .ok lv nx' h'):MoOk G X E H B (.next x false) lv nx' h':=by
 unfold zzs at hq
 split at hq
 ·rename_i r hx
  obtain ⟨vx,x1,x2⟩:=hE.ev x (by grind)
  rw [hx] at x2; simp only [VR] at x2
  obtain ⟨k,hk,rfl⟩:=x2
  split at hq
  ·rename_i since seen last hit
   cases hq
   obtain ⟨h0,j,m',sn,a1,a2,a3⟩:=hr.iter hit hk
   rw [h0] at x1
   have a3:m' = none:=a3
   subst a3
   refine zaq Z fun dst ty pos after g ρ w hρ S => ⟨.tuple #[.bool false],w,H,?_,S,B,zDj _,hn,by simp only [VR]; exact ⟨_,Z,zaB (zby rfl) VRL.nil_⟩,hr⟩
   have hb:=(S.at_ a1 (j:=0) rfl).1
   have hit2:(getObj k.b).run X.P w = .ok (.mapIter none since sn last) w:=by grind [getObj,Sem.run]
   simp [execOp,hρ _ _ x1,Instr.next,hit2]
  ·rename_i m since seen last hit
   unfold zBO at hq
   split at hq
   ·rename_i clock bs es hmp
    split at hq
    ·rename_i hold
     obtain ⟨h0,j,m',sn,a1,a2,a3⟩:=hr.iter hit hk
     rw [h0] at x1
     obtain ⟨km,hkm,rfl⟩:=a3
     obtain ⟨jm,ents,b1,b2,b3⟩:=hr.map hmp hkm
     have hleft:=zpg (seen:=seen) b2 b3
     have hfil:(ents.filter fun e => !sn.contains e.born).toList=ents.toList.filter fun e => !seen.contains e.born:=by
      rw [zFH]
      grind
     have hno:(!sn.isEmpty && !ents.isEmpty && ents.all (·.born ≥ last))=false:=by
      rw [zmh,zmh,← a2,← b2] at hold
      rw [← Array.isEmpty_toList,← Array.isEmpty_toList,← Array.all_toList]
      cases h1:sn.toList.isEmpty with
      | true => rfl
      | false =>
       cases h2:ents.toList.isEmpty with
       | true => rfl
       | false =>
        rw [h1,List.isEmpty_map,h2] at hold
        simp only [zFS,List.any_map,zDP,Function.comp] at hold
        obtain ⟨e,e1,e2⟩:=hold
        have e2:=zbd.1 e2
        grind
     have hitx:∀ w,Sep X.w0 X.base w H→(getObj k.b).run X.P w = .ok (.mapIter (some km.b) since sn last) w∧(getObj km.b).run X.P w = .ok (.map ents clock) w:=fun w S =>
      ⟨by simp [getObj,Sem.run,(S.at_ a1 (j:=0) Z).1],za0 (S.at_ b1 (j:=0) Z).1⟩
     unfold zBr at hq
     split at hq
     ·rename_i hl
      rw [hl] at hleft
      have hleft:ents.toList.filter (fun e => !seen.contains e.born)=[]:=hleft
      rw [hleft] at hfil
      have hfil:(ents.filter fun e => !sn.contains e.born) = #[]:=zD5 hfil
      cases hq
      refine zaq Z fun dst ty pos after g ρ w hρ S => ⟨.tuple #[.bool false],w,H,?_,S,B,zDj _,hn,by simp only [VR]; exact ⟨_,Z,zaB (zby rfl) VRL.nil_⟩,hr⟩
      obtain ⟨g1,g2⟩:=hitx w S
      simp only [execOp,hρ _ _ x1,Instr.next,Sem.run_bind,g1,g2,Result.andThen_ok,zEi,hno,hfil,zDy,zDU,Sem.run_pure]
      simp [Question.forced]
     ·rename_i b kv vv hl
      split at hq
      ·rename_i hlt
       have hlt:=zbd.1 hlt
       rw [hl] at hleft
       obtain ⟨e,m2,e1,e2,e3,e4,e5⟩:=hleft
       have e5:m2=[]:=e5
       subst e5
       rw [e1] at hfil
       have hfil:(ents.filter fun e => !sn.contains e.born) = #[e]:=zD5 hfil
       unfold putB at hq
       rw [zb5] at hq
       cases hq
       obtain ⟨j2,obj,c1,c2,c3⟩:=hr.put (i:=r) (by rw [hit]; rfl) hk
       rw [hit] at c2
       obtain ⟨_,m3,sn3,rfl,c4,c5⟩:=c2
       obtain ⟨km3,hkm3,rfl⟩:=c5
       rw [hkm] at hkm3; cases hkm3
       have hsn:sn3=sn:=zD5 (c4.trans a2.symm)
       subst hsn
       refine zaq Z fun dst ty pos after g ρ w hρ S => ?_
       obtain ⟨g1,g2⟩:=hitx w S
       have hb:=(S.at_ c1 (j:=0) rfl).1
       have hlt2:k.b < w.heap.size:=(zDW.1 hb).1
       refine ⟨.tuple #[.bool true,e.key,e.val],{ w with heap:=w.heap.setIfInBounds k.b (.mapIter (some km.b) since (sn3.push e.born) clock) },_,?_,S.write (j:=0) c1 Z (w':={ w with heap:=w.heap.setIfInBounds k.b (.mapIter (some km.b) since (sn3.push e.born) clock) }) (.mapIter (some km.b) since (sn3.push e.born) clock) Z Z Z kY (by grind) (fun m hm => by
  grind),B,List.prefix_refl _,hn,by simp only [VR]; exact ⟨_,Z,zaB (zby rfl) (zaB e3 (zaB e4 VRL.nil_))⟩,c3 _ _ ⟨h0,some km.b,sn3.push e.born,Z,by grind,km,hkm,Z⟩⟩
       have e2' : e.born < since:=by omega
       have hset:(setObj k.b (.mapIter (some km.b) since (sn3.push e.born) clock)).run X.P w = .ok () { w with heap:=w.heap.setIfInBounds k.b (.mapIter (some km.b) since (sn3.push e.born) clock) }:=by grind [setObj,Sem.run]
       simp only [execOp,hρ _ _ x1,Instr.next,Sem.run_bind,g1,g2,Result.andThen_ok,zEi,hno,hfil,zDy,zDU,Sem.run_pure]
       simp_all [Question.forced,Nat.not_le]
      grind
     grind
    grind
   grind
  grind
 grind
end
variable {G:List (Nat×Obj)}
section
variable {X:Pt}{E:Env}{H:List Seg}{B:BB}{h h' : LH}{cx:Cx}{f:SlF}{lv:LV}{nx nx' : Nat}
theorem zzz (m n:Nat):minN m n=Nat.min n m:=by
 grind [minN,Nat.ble,zaP,Nat.min_eq_left,Nat.min_eq_right]
theorem zwf {x:LV}{vx:Value}(hl:lenE x=some n) (hx:VR B x vx) (w:World):(Builtin.lenOf vx).run P w = .ok n w:=by
 cases x <;> simp only [lenE] at hl <;> try (cases hl; done)
 case str => cases hl; simp only [VR] at hx; obtain ⟨l,rfl,rfl,_⟩:=hx; simp [str,Builtin.lenOf,zba]
 case nils => simp_all [VR,Builtin.lenOf]
 case sle => cases hl; simp only [VR] at hx; obtain ⟨A,c,rfl⟩:=hx; simp [Builtin.lenOf]
 case sl => cases hl; simp only [VR] at hx; obtain ⟨k,_,rfl⟩:=hx; simp [Builtin.lenOf]
 case slo => cases hl; simp only [VR] at hx; obtain ⟨k,c,A,_,rfl,_⟩:=hx; simp [Builtin.lenOf]
theorem zvx {m:Nat}(hl:zeH s=some m) (hv:VR B s vs):∃ A C,vs = .slice A m C:=by
 cases s <;> simp only [zeH] at hl <;> try (cases hl; done)
 case nils => grind [VR]
 case sle => cases hl; simp only [VR] at hv; omega
 case sl => cases hl; simp only [VR] at hv; grind
 case slo => cases hl; simp only [VR] at hv; grind
theorem zg3 {ty:TypeId}(ht:ts[0]? = some t) (hu:P.underlying t=some (.slice e)) (hke:known P e=true) {A:Option Addr}{m C:Nat}{vx:Value}{vs:List Value}(hlen:(Builtin.lenOf vx).run P w = .ok n w)
  (hf:(Builtin.firstCells (mkTI P e).sz (Nat.min n m) vx).run P w = .ok vs.toArray w) (hst:match A with | some a => (storeCells a vs).run P w = .ok () w' | none => w' = w):(Builtin.copy_ ts ty #[.slice A m C,vx]).run P w = .ok (goInt (Nat.min n m:Nat)) w':=by
 cases A with
 | none => simp_all [Builtin.copy_,run_underlying,zbG]
 | some a =>
  simp_all [storeCells,Builtin.copy_,run_underlying,zbG]
theorem zmz (n:Nat):VR B (goN n) (goInt (n:Nat)):=by unfold goN; rw [zaV]; simp only [VR]; rfl
theorem zAs (hc:CxOk X.P X.w0 X.base cx) (hr:HR G B h H) (hn:B.length=nx) (hE:ER B f E) {rest:List TypeId}(hts:ts.toList=t::rest) (hk:(mkTI X.P t).kind = .slice e) {d x:LV}(hxs:evL xs.toList f=[d,x]) (hd:defd (evL xs.toList f)=true)
  (hq:zAt cx e d x nx h = .ok lv nx' h'):MoOk G X E H B (.call ⟨.builtin .copy,xs,ts⟩) lv nx' h':=by
 obtain ⟨us,u1,u2⟩:=zgi hE xs.toList (zdR hd)
 rw [hxs] at u2
 simp only [VRL] at u2
 obtain ⟨vd,us,rfl,hvd,vx,us',rfl,hvx,rfl⟩:=u2
 have ht:ts[0]? = some t:=by rw [← zDE,hts]; rfl
 obtain ⟨hu,hke⟩:=zbX hk
 suffices hh:∀ w ty,Sep X.w0 X.base w H→∃ v w' H',(Builtin.copy_ ts ty #[vd,vx]).run X.P w = .ok v w'∧Sep X.w0 X.base w' H'∧MR G B lv nx' h' v H' by
  refine zcg u1 fun w ty consts S => ?_
  obtain ⟨v,w',H',r1,r2,r3⟩:=hh w ty S
  exact ⟨v,w',H',by simp_all [builtin,Sem.run_bind],r2,r3⟩
 intro w ty S
 unfold zAt at hq
 split at hq
 ·rename_i m n hm hnx
  have hlen:=zwf (P:=X.P) hnx hvx w
  rw [zzz] at hq
  split at hq
  ·rename_i h0
   cases hq
   obtain ⟨A,C,rfl⟩:=zvx hm hvd
   obtain ⟨vs0,a1,a2,a3⟩:=zfD (w0:=X.w0) (base:=X.base) (P:=X.P) hr (s:=(mkTI X.P e).sz) (n:=0) (l:=[]) (by simp [zfE]) hnx (zDq _) hvx
   simp only [VRL] at a1
   subst a1
   have:=zg3 (ty:=ty) (A:=A) (C:=C) ht hu hke hlen (vs:=[]) (by rw [h0]; grind) (w':=w) (by cases A with | none => rfl | some a => rfl)
   rw [h0] at this
   exact ⟨_,w,H,this,S,B,zDj _,hn,zmz 0,hr⟩
  ·rename_i k' h0
   have hkn:k' + 1≤n:=by grind
   split at hq
   ·rename_i hby
    obtain ⟨s1,s2,s3⟩:=zfK hc hby
    unfold zCq at hq
    split at hq
    ·cases hq
    ·rename_i y hy
     obtain ⟨l,l1,l2,l3,_⟩:=zgV (w0:=X.w0) (base:=X.base) (P:=X.P) hr hy hnx hkn hvx
     subst l2
     have one:∀ c ∈ l.map byt,c.oneCell' = true:=fun c hc => by obtain ⟨u,_,rfl⟩:=zDC.1 hc; rfl
     split at hq
     ·rename_i i o len c
      simp only [VR] at hvd; obtain ⟨k,hk1,rfl⟩:=hvd
      simp only [zeH] at hm; cases hm
      obtain ⟨lo,hw,rfl,rfl,rfl⟩:=zgu hq
      rw [← l1] at hw
      obtain ⟨H',w',r1,r2,r3⟩:=zgn (P:=X.P) S hr hk1 (ze0 hw) (o:=o) one (fun obj hor => hor.writeM hw)
      have:=zg3 (ty:=ty) (A:=some ⟨k.b,k.off + o,none⟩) (C:=c) ht hu hke hlen (vs:=l.map byt) (by rw [h0,s1]; grind) r1
      rw [h0] at this
      exact ⟨_,w',H',this,r2,B,zDj _,hn,zmz _,r3⟩
     ·rename_i i o len ad
      simp only [VR] at hvd; obtain ⟨k,c,A,hk1,rfl,q1,q2,q3,q4,q5⟩:=hvd
      simp only [zeH] at hm; cases hm
      have hkm:k' + 1≤m:=by grind
      have:=q3 kQ
      subst this
      obtain ⟨lo,hw,rfl,rfl,rfl⟩:=zgu hq
      rw [← l1] at hw
      obtain ⟨H',w',r1,r2,r3⟩:=zgn (P:=X.P) S hr hk1 (ze0 hw) (o:=o) one (fun obj hor => hor.writeM hw)
      have:=zg3 (ty:=ty) (A:=some ⟨k.b,k.off + o,none⟩) (C:=c) ht hu hke hlen (vs:=l.map byt) (by rw [h0,s1]; grind) r1
      rw [h0] at this
      exact ⟨_,w',H',this,r2,B,zDj _,hn,zmz _,r3⟩
     grind
   ·unfold zCr at hq
    rw [hc.ty] at hq
    split at hq
    ·cases hq
    ·rename_i l hl
     obtain ⟨vs,v1,v2,v3⟩:=zfD (w0:=X.w0) (base:=X.base) (P:=X.P) hr hl hnx hkn hvx
     split at hq
     ·rename_i i o len c
      simp only [VR] at hvd; obtain ⟨k,hk1,rfl⟩:=hvd
      simp only [zeH] at hm; cases hm
      obtain ⟨lo,hw,rfl,rfl,rfl⟩:=zet hq
      obtain ⟨H',w',r1,r2,r3⟩:=zgn (P:=X.P) S hr hk1 (zc7 hw) (o:=o) v2 (fun obj hor => hor.write v1 v2 hw)
      have:=zg3 (ty:=ty) (A:=some ⟨k.b,k.off + o,none⟩) (C:=c) ht hu hke hlen (vs:=vs) (by rw [h0]; grind) r1
      rw [h0] at this
      exact ⟨_,w',H',this,r2,B,zDj _,hn,zmz _,r3⟩
     ·rename_i i o len ad
      simp only [VR] at hvd; obtain ⟨k,c,A,hk1,rfl,q1,q2,q3,q4,q5⟩:=hvd
      simp only [zeH] at hm; cases hm
      have hkm:k' + 1≤m:=by grind
      have:=q3 kQ
      subst this
      obtain ⟨lo,hw,rfl,rfl,rfl⟩:=zet hq
      obtain ⟨H',w',r1,r2,r3⟩:=zgn (P:=X.P) S hr hk1 (zc7 hw) (o:=o) v2 (fun obj hor => hor.write v1 v2 hw)
      have:=zg3 (ty:=ty) (A:=some ⟨k.b,k.off + o,none⟩) (C:=c) ht hu hke hlen (vs:=vs) (by rw [h0]; grind) r1
      rw [h0] at this
      exact ⟨_,w',H',this,r2,B,zDj _,hn,zmz _,r3⟩
     grind
 grind
theorem map_set (hr:HR G B h H) (hi:atB h i=LO.map clock bs es) (hk:B[i]? = some k):∃ (j:Nat) (ents:Array MapEntry),H[j]? = some [(k.b,.map ents clock)]∧ents.toList.map (·.born)=bs∧MRL B es ents.toList ∧
  ∀ (ents' : Array MapEntry) (clock' : Nat) (bs' : List Nat) (es' : List (LV×LV)) (w:World),ents'.toList.map (·.born)=bs'→MRL B es' ents'.toList→Sep X.w0 X.base w H→∃ w' H',(setObj k.b (.map ents' clock')).run X.P w = .ok () w'∧Sep X.w0 X.base w' H'∧HR G B (Tr.set .gone (.map clock' bs' es') h i) H':=by
 obtain ⟨j,obj,a1,a2,a3⟩:=hr.put (zpd hi) hk
 rw [hi] at a2
 obtain ⟨ents,rfl,a4,a5⟩:=a2
 refine ⟨j,ents,a1,a4,a5,fun ents' clock' bs' es' w hbs hm S => ?_⟩
 have hb:=(S.at_ a1 (j:=0) rfl).1
 have hlt:k.b < w.heap.size:=(zDW.1 hb).1
 refine ⟨{ w with heap:=w.heap.setIfInBounds k.b (.map ents' clock') },H.set j [(k.b,.map ents' clock')],by grind [setObj,Sem.run],?_,a3 _ _ ⟨ents',Z,hbs,hm⟩⟩
 have:=S.write (j:=0) a1 rfl (w':={ w with heap:=w.heap.setIfInBounds k.b (.map ents' clock') }) (.map ents' clock') rfl rfl rfl kY (by grind) (fun m hm => by
  grind)
 grind
theorem ziU (hq:putM h i clock bs es nx = .ok lv nx' h'):lv = .tup []∧nx' = nx∧h' = Tr.set .gone (.map clock bs es) h i:=by
 unfold putM putB at hq
 rw [zb5] at hq
 grind
theorem zyQ {k v:LV}(hq:setL h i clock bs es k v nx p = .ok lv nx' h'):lv = .tup []∧nx' = nx ∧
  ((p=some none∧h' = Tr.set .gone (.map (clock + 1) (bs++[clock]) (es++[(k,v)])) h i)∨∃ j u,p=some (some j)∧es[j]? = some (k,u)∧h' = Tr.set .gone (.map clock bs (es.set j (k,v))) h i):=by
 unfold setL at hq
 split at hq
 ·rw [zaV] at hq
  obtain ⟨h1,h2,h3⟩:=ziU hq
  grind
 ·rename_i j
  split at hq
  ·rename_i a u hj
   split at hq
   ·rename_i hs
    have:=zl4 6 _ _ hs
    subst this
    obtain ⟨h1,h2,h3⟩:=ziU hq
    grind
   grind
  grind
 grind
theorem zmk {α β:Type}(g:α→β):∀ (l:List α) (i:Nat),(l.eraseIdx i).map g=(l.map g).eraseIdx i
 | [],i => by simp
 | a::l,0 => by simp
 | a::l,i + 1 => by simp [zmk g l i]
theorem zAn (hq:delL h i clock bs es nx p = .ok lv nx' h'):lv = .tup []∧nx' = nx ∧
  ((p=some none∧h' = Tr.set .gone (.map clock bs es) h i)∨∃ j,p=some (some j)∧h' = Tr.set .gone (.map clock (bs.eraseIdx j) (es.eraseIdx j)) h i):=by
 unfold delL at hq
 split at hq
 ·obtain ⟨h1,h2,h3⟩:=ziU hq
  grind
 ·obtain ⟨h1,h2,h3⟩:=ziU hq
  grind
 grind
theorem zxV (hc:CxOk X.P X.w0 X.base cx) (hr:HR G B h H) (hn:B.length=nx) (hE:ER B f E) {m k v:Operand}(hq:zkN cx t (evO m f) (evO k f) (evO v f) nx h = .ok lv nx' h') (hop:op = .mapUpdate t m k v∨op = .insert t m k v):MoOk G X E H B op lv nx' h':=by
 unfold zkN at hq
 rw [hc.ty] at hq
 cases hkk:(mkTI X.P t).kind <;> simp only [hkk] at hq
 case map kt e =>
  obtain ⟨hu,hkt,hke⟩:=zjN hkk
  obtain ⟨d,hd⟩:=zi9 hkt
  split at hq
  ·rename_i v' hkey hv'
   obtain ⟨rfl,hvn⟩:=zhL hv'
   unfold updM at hq
   split at hq
   ·rename_i i hm
    split at hq
    ·rename_i clock bs es hes
     obtain ⟨rfl,rfl,hset⟩:=zyQ hq
     obtain ⟨vm,m1,m2⟩:=hE.ev m (by grind)
     rw [hm] at m2; simp only [VR] at m2
     obtain ⟨kb,hkb,rfl⟩:=m2
     obtain ⟨kp,kn⟩:=zkr hkey
     obtain ⟨vk,k1,k2⟩:=hE.ev k kn
     obtain ⟨vv,v1,v2⟩:=hE.ev v hvn
     obtain ⟨j,ents,a1,ab,a2,a3⟩:=map_set (X:=X) hr hes hkb
     have main:∀ w,Sep X.w0 X.base w H→∃ w' H',(Instr.mapUpdate t (.map (some kb.b)) vk vv).run X.P w = .ok () w'∧Sep X.w0 X.base w' H'∧HR G B h' H':=by
      intro w S
      have hb:=(S.at_ a1 (j:=0) rfl).1
      rcases hset with ⟨p1,rfl⟩ | ⟨ix,u,p1,p3,rfl⟩
      ·have hf:=zcJ hc S hr k2 hd a2 p1
       obtain ⟨w',H',s1,s2,s3⟩:=a3 (ents.push ⟨vk,vv,clock⟩) (clock + 1) (bs++[clock]) (es++[(evO k f,evO v f)]) w (by grind) (by rw [Array.toList_push]; exact a2.app k2 v2) S
       refine ⟨w',H',?_,s2,s3⟩
       simp only [zGe] at hf
       simp only [Instr.mapUpdate,Sem.run_bind,run_underlying hu,Result.andThen_ok,za0 hb,ze1 hc hkey k2,hf]
       exact s1
      ·have hf:=zcJ hc S hr k2 hd a2 p1
       obtain ⟨en,e1,e2,e3⟩:=a2.get p3
       have hkey2:en.key=vk:=zkk 5 _ kp _ _ e2 k2
       have e1' : ents[ix]? = some en:=by grind
       have hmod:(ents.modify ix fun e => { e with key:=vk,val:=vv }).toList=ents.toList.set ix ⟨vk,vv,en.born⟩:=by
        rw [Array.toList_modify]
        apply zDV
        grind
       obtain ⟨w',H',s1,s2,s3⟩:=a3 (ents.modify ix fun e => { e with key:=vk,val:=vv }) clock bs (es.set ix (evO k f,evO v f)) w (by
        rw [hmod,List.map_set,← ab]
        apply zDV
        grind) (by
        rw [hmod]
        exact a2.set k2 v2) S
       refine ⟨w',H',?_,s2,s3⟩
       simp only [zFh,e1,zDN] at hf
       simp only [Instr.mapUpdate,Sem.run_bind,run_underlying hu,Result.andThen_ok,za0 hb,ze1 hc hkey k2,hf,e1',zDN,zEg,hkey2,zie kp k2]
       exact s1
     rcases hop with rfl | rfl
     ·refine zcL Z fun dst ty pos after g ρ w hρ S => ?_
      obtain ⟨w',H',r1,r2,r3⟩:=main w S
      exact ⟨w',H',by simp_all [execOp],r2,B,zDj _,hn,zdH,r3⟩
     ·refine zcL Z fun dst ty pos after g ρ w hρ S => ?_
      obtain ⟨w',H',r1,r2,r3⟩:=main w S
      exact ⟨w',H',by simp_all [execOp],r2,B,zDj _,hn,zdH,r3⟩
    grind
   grind
  grind
 all_goals cases hq
theorem zsg {t:TypeId}{k:LV}:∀ {l:List (LV×LV)}{i:Nat},posM cx t k l=some (some i)→∃ q,l[i]? = some q
 | [],i,h => by simp only [posM] at h; cases h
 | (a,v)::l,i,h => by
  simp only [posM] at h
  cases he:zmQ cx t k a with
  | none => simp only [he] at h; cases h
  | some b =>
   cases b with
   | true => simp only [he] at h; cases h; exact ⟨_,rfl⟩
   | false =>
    simp only [he] at h
    split at h
    ·rename_i j hj
     cases h
     obtain ⟨q,hq⟩:=zsg hj
     exact ⟨q,by simpa using hq⟩
    ·rename_i hne
     cases hp:posM cx t k l with
     | none => rw [hp] at h; cases h
     | some r => cases r with
      | none => rw [hp] at h; cases h
      | some j => exact absurd hp (hne j)
theorem zgz:VR B (.tup []) (.tuple #[]):=by simp only [VR]; exact ⟨#[],rfl,VRL.nil_⟩
theorem zCm (hc:CxOk X.P X.w0 X.base cx) (hr:HR G B h H) (hn:B.length=nx) (hE:ER B f E) {rest:List TypeId}(hts:ts.toList=t::rest) {kt:TypeId}(hkk:(mkTI X.P t).kind = .map kt e) {x k:LV}(hxs:evL xs.toList f=[x,k]) (hd:defd (evL xs.toList f)=true)
  (hq:delE cx kt x k nx h = .ok lv nx' h'):MoOk G X E H B (.call ⟨.builtin .delete,xs,ts⟩) lv nx' h':=by
 obtain ⟨us,u1,u2⟩:=zgi hE xs.toList (zdR hd)
 rw [hxs] at u2
 simp only [VRL] at u2
 obtain ⟨vx,us,rfl,hvx,vk,us',rfl,hvk,rfl⟩:=u2
 have ht:ts[0]? = some t:=by rw [← zDE,hts]; rfl
 obtain ⟨hu,hkt,hke⟩:=zjN hkk
 obtain ⟨d,hd2⟩:=zi9 hkt
 unfold delE at hq
 split at hq
 ·rename_i hkey
  split at hq
  ·rename_i i
   split at hq
   ·rename_i clock bs es hes
    obtain ⟨rfl,rfl,hset⟩:=zAn hq
    simp only [VR] at hvx
    obtain ⟨kb,hkb,rfl⟩:=hvx
    obtain ⟨j,ents,a1,ab,a2,a3⟩:=map_set (X:=X) hr hes hkb
    refine zcg u1 fun w ty consts S => ?_
    have hb:=(S.at_ a1 (j:=0) rfl).1
    rcases hset with ⟨p1,rfl⟩ | ⟨ix,p1,rfl⟩
    ·have hf:=zcJ hc S hr hvk hd2 a2 p1
     obtain ⟨w',H',s1,s2,s3⟩:=a3 ents clock bs es w ab a2 S
     refine ⟨.tuple #[],w',H',?_,s2,B,zDj _,hn,zgz,s3⟩
     simp only [zGe] at hf
     simp [builtin,Builtin.delete_,ht,run_underlying hu,za0 hb,ze1 hc hkey hvk,hf,s1]
    ·have hf:=zcJ hc S hr hvk hd2 a2 p1
     have hel:(ents.eraseIdxIfInBounds ix).toList=ents.toList.eraseIdx ix:=by simp_all
     obtain ⟨w',H',s1,s2,s3⟩:=a3 (ents.eraseIdxIfInBounds ix) clock (bs.eraseIdx ix) (es.eraseIdx ix) w (by grind [zmk]) (by
      rw [hel]; exact a2.erase) S
     refine ⟨.tuple #[],w',H',?_,s2,B,zDj _,hn,zgz,s3⟩
     have hlt:∃ en,ents.toList[ix]? = some en:=by
      obtain ⟨q,hq⟩:=zsg p1
      obtain ⟨en,hen,_⟩:=a2.get hq
      grind
     obtain ⟨en,hen⟩:=hlt
     simp only [zFh,hen,zDN] at hf
     simp [builtin,Builtin.delete_,ht,run_underlying hu,za0 hb,ze1 hc hkey hvk,hf,s1]
   grind
  ·cases hq
   simp only [VR] at hvx; subst hvx
   refine zcg u1 fun w ty consts S => ⟨.tuple #[],w,H,?_,S,B,zDj _,hn,zgz,hr⟩
   simp [builtin,Builtin.delete_,ht,run_underlying hu,ze1 hc hkey hvk]
  grind
 grind
theorem zAz (hr:HR G B h H) {z:Option (List LV)}(hz:∀ l,z=some l→∃ zv,(∀ w,(zeroValue e).run X.P w = .ok zv w)∧VRL B l zv.cells.toList∧∀ c ∈ zv.cells.toList,c.oneCell' = true) {o:Nat}(hq:clrC z i o n nx h = .ok lv nx' h') :
  (n=0∧lv = .tup []∧nx' = nx∧h' = h)∨(0 < n∧∃ zv lo vs,(∀ w,(zeroValue e).run X.P w = .ok zv w)∧vs=(List.replicate n zv.cells.toList).flatten∧(∀ c ∈ vs,c.oneCell' = true)∧∃ l,VRL B l vs∧zgt (atB h i) o l=some lo∧lv = .tup []∧nx' = nx∧h' = Tr.set .gone lo h i):=by
 unfold clrC at hq
 split at hq
 ·grind
 ·rename_i n z'
  obtain ⟨zv,z1,z2,z3⟩:=hz _ rfl
  obtain ⟨lo,hw,rfl,rfl,rfl⟩:=zet hq
  exact .inr ⟨by omega,zv,lo,_,z1,rfl,ziP z3 _,_,z2.rep _,hw,rfl,rfl,rfl⟩
 grind
theorem zCt (hc:CxOk X.P X.w0 X.base cx) (hr:HR G B h H) (hn:B.length=nx) (hE:ER B f E) {rest:List TypeId}(hts:ts.toList=t::rest) {x:LV}(hxs:evL xs.toList f=[x]) (hd:defd (evL xs.toList f)=true)
  (hq:clrE cx (mkTI X.P t).kind x nx h = .ok lv nx' h'):MoOk G X E H B (.call ⟨.builtin .clear,xs,ts⟩) lv nx' h':=by
 obtain ⟨us,u1,u2⟩:=zgi hE xs.toList (zdR hd)
 rw [hxs] at u2
 simp only [VRL] at u2
 obtain ⟨vx,us,rfl,hvx,rfl⟩:=u2
 have ht:ts[0]? = some t:=by rw [← zDE,hts]; rfl
 have zero:∀ {e:TypeId}(l:List LV),cells (cx.ty e).zero=some l→∃ zv,(∀ w,(zeroValue e).run X.P w = .ok zv w)∧VRL B l zv.cells.toList∧∀ c ∈ zv.cells.toList,c.oneCell' = true:=by
  intro e l hl
  rw [hc.ty] at hl
  obtain ⟨_,zv,z1,z2,z3,z4⟩:=zck (P:=X.P) (t:=e) B (fun e => by rw [e] at hl; cases hl)
  grind [zb0]
 have fill:∀ {e:TypeId}{i o n C:Nat}{A:Option Addr}{k:Bk},X.P.underlying t=some (.slice e)→B[i]? = some k→(0 < n→A=some ⟨k.b,k.off + o,none⟩)→vx = .slice A n C→clrC (cells (cx.ty e).zero) i o n nx h = .ok lv nx' h'→MoOk G X E H B (.call ⟨.builtin .clear,xs,ts⟩) lv nx' h':=by
  intro e i o n C A k hu hk hA hvv hq
  subst hvv
  refine zcg u1 fun w ty consts S => ?_
  rcases zAz (X:=X) (e:=e) hr (zero (e:=e)) hq with ⟨rfl,rfl,rfl,rfl⟩ | ⟨hn0,zv,lo,vs,z1,rfl,z3,l,z4,hw,rfl,rfl,rfl⟩
  ·refine ⟨.tuple #[],w,H,?_,S,B,zDj _,hn,zgz,hr⟩
   cases A <;> simp [builtin,Builtin.clear_,ht,run_underlying hu]
  ·rw [hA hn0]
   obtain ⟨H',w',r1,r2,r3⟩:=zgn (P:=X.P) S hr hk (zc7 hw) (o:=o) z3 (fun obj hor => hor.write z4 z3 hw)
   refine ⟨.tuple #[],w',H',?_,r2,B,zDj _,hn,zgz,r3⟩
   cases n with
   | zero => omega
   | succ n =>
    have hzc:(Builtin.zeroCells zv.cells (n + 1)).toList=(List.replicate (n + 1) zv.cells.toList).flatten:=by rw [zbW]
    rw [← hzc] at r1
    simp [builtin,Builtin.clear_,ht,run_underlying hu,z1]
    simp_all
 unfold clrE at hq
 split at hq
 ·rename_i kt e i hk
  split at hq
  ·rename_i clock bs es hes
   obtain ⟨rfl,rfl,rfl⟩:=ziU hq
   have hu:=(zjN hk).1
   simp only [VR] at hvx
   obtain ⟨kb,hkb,rfl⟩:=hvx
   obtain ⟨j,ents,a1,ab,a2,a3⟩:=map_set (X:=X) hr hes hkb
   refine zcg u1 fun w ty consts S => ?_
   have hb:=(S.at_ a1 (j:=0) rfl).1
   obtain ⟨w',H',s1,s2,s3⟩:=a3 #[] clock [] [] w rfl (by simp [MRL]) S
   refine ⟨.tuple #[],w',H',?_,s2,B,zDj _,hn,zgz,s3⟩
   simp [builtin,Builtin.clear_,ht,run_underlying hu,za0 hb,s1]
  grind
 ·rename_i kt e hk
  cases hq
  have hu:=(zjN hk).1
  simp only [VR] at hvx; subst hvx
  refine zcg u1 fun w ty consts S => ⟨.tuple #[],w,H,?_,S,B,zDj _,hn,zgz,hr⟩
  simp_all [builtin,Builtin.clear_,run_underlying]
 ·rename_i e i o n c hk
  simp only [VR] at hvx; obtain ⟨k,hk1,rfl⟩:=hvx
  exact fill (zbX hk).1 hk1 (fun _ => Z) Z hq
 ·rename_i e i o n ad hk
  simp only [VR] at hvx; obtain ⟨k,c,A,hk1,rfl,q1,q2,q3,q4,q5⟩:=hvx
  exact fill (zbX hk).1 hk1 (fun h0 => by grind) Z hq
 ·rename_i e hk
  cases hq
  have hu:=(zbX hk).1
  simp only [VR] at hvx; subst hvx
  refine zcg u1 fun w ty consts S => ⟨.tuple #[],w,H,?_,S,B,zDj _,hn,zgz,hr⟩
  simp_all [builtin,Builtin.clear_,run_underlying]
 grind
theorem zud (hc:CxOk X.P X.w0 X.base cx) (hr:HR G B h H) (hn:B.length=nx) (hE:ER B f E) {b:Builtin}(hd:defd (evL xs.toList f)=true) (hq:(zue cx b ts.toList).go (evL xs.toList f) nx h = .ok lv nx' h'):MoOk G X E H B (.call ⟨.builtin b,xs,ts⟩) lv nx' h':=by
 unfold zue at hq
 split at hq
 ·rename_i t t2 rest hts
  split at hq
  ·rename_i e hk
   rw [hc.ty] at hk
   simp only [zaJ] at hq
   split at hq
   ·rename_i s x hx
    split at hq
    ·rename_i hK
     rw [hc.ty] at hK
     grind [zuw]
    grind
   grind
  ·cases hq
 ·rename_i t rest hts
  split at hq
  ·rename_i e hk
   rw [hc.ty] at hk
   grind [zaJ,zAs]
  ·cases hq
 ·rename_i t rest hts
  split at hq
  ·rename_i kt e hk
   rw [hc.ty] at hk
   grind [zaJ,zCm]
  ·cases hq
 ·rename_i t rest hts
  simp only [zaJ] at hq
  rw [hc.ty] at hq
  grind [zCt]
 ·cases hq
theorem zBy (hc:CxOk X.P X.w0 X.base cx) (hr:HR G B h H) (hn:B.length=nx) (hE:ER B f E) {s d:TypeId}(hss:(mkTI X.P s).kind = .str) (hq:s2b cx (cx.ty d).kind (evO x f) nx h = .ok lv nx' h'):MoOk G X E H B (.convert s d x) lv nx' h':=by
 unfold s2b at hq
 rw [hc.ty] at hq
 split at hq
 ·rename_i e n y hk hx
  split at hq
  ·rename_i hb
   rw [zC9] at hb
   obtain ⟨s1,s2,s3⟩:=zfK hc hb.1
   have hlt:=zbd.1 hb.2
   obtain ⟨rfl,rfl,rfl⟩:=zcT hq
   obtain ⟨vx,x1,x2⟩:=hE.ev x (by grind)
   rw [hx] at x2; simp only [VR] at x2
   obtain ⟨l,rfl,rfl,rfl⟩:=x2
   have hu:=(zbX hk).1
   refine zaq Z fun dst' ty pos after g ρ w hρ S => ?_
   have hrun:=run_bytes_of_string (P:=X.P) w s d e ⟨⟨l⟩⟩ (zmq hss) hu s2
   have hge:=grownCap_ge w l.length 0 e
   have erow:(bytesRow ⟨⟨l⟩⟩ (grownCap w l.length 0 e)).toList=l.map byt++List.replicate (grownCap w l.length 0 e - l.length) (byt 0):=by
    simp_all [bytesRow,byt,zba]
   have hsz:(bytesRow ⟨⟨l⟩⟩ (grownCap w l.length 0 e)).size=grownCap w l.length 0 e:=by
    have:=zDh List.length erow
    grind
   refine ⟨.slice (some ⟨w.heap.size,0,none⟩) l.length (grownCap w l.length 0 e),w.drew.alloc (.cells (bytesRow ⟨⟨l⟩⟩ (grownCap w l.length 0 e)) e ((bytesRow ⟨⟨l⟩⟩ (grownCap w l.length 0 e)).size,(bytesRow ⟨⟨l⟩⟩ (grownCap w l.length 0 e)).size + 1)),_,?_,(S.drawn (w.drawn + 1)).alloc _,?_⟩
   ·rw [zba] at hrun
    have hrun' : (convert s d (str l)).run X.P w=_:=hrun
    simp_all [execOp]
   ·refine MR.new hr hn (sz:=1) (vs:=l.map byt) (lo:=.bytes l.length (zaf l)) ⟨Z,l,Z,Z,by grind,zDc (by grind)⟩ erow ?_ ?_ (.inl fun _ _ _ h => by cases h) _ ?_
    ·intro c hcm
     rw [erow] at hcm
     rcases zDt.1 hcm with h | h
     ·obtain ⟨u,_,rfl⟩:=zDC.1 h; rfl
     ·rw [List.eq_of_mem_replicate h]; rfl
    ·intro j hj
     grind
    ·simp only [VR]
     refine ⟨_,grownCap w l.length 0 e,_,zdQ hn,Z,hge,?_,fun _ => Z,fun _ => Z,by grind [grownCap_le_maxLen,maxLen]⟩
     grind
  grind
 grind
theorem zv7 (t:Nat):nanW ((t % 2) * 2 ^ 63 + 0x7ff0000000000000 + 1 + (t / 2) % (2 ^ 52 - 1)):=by
 have h1:t % 2 < 2:=zEE _ kE
 have h2:t / 2 % (2 ^ 52 - 1) < 2 ^ 52 - 1:=zEE _ kE
 generalize t % 2=a at *
 generalize t / 2 % (2 ^ 52 - 1)=b at *
 refine ⟨by omega,(zkZ _).2 kQ⟩
theorem zwH {op:BinOp}{g:Nat→Nat→Option Nat}(hg:flA op=some g):(∀ m n,nanW m→g m n=none)∧(∀ m n,nanW n→g m n=none)∧(∀ m n t,binOp op t (.float .f64 m) (.float .f64 n)=(do match g m n with | some r => pure (.float .f64 r) | none => pure (.float .f64 (← choose (.nanBits .f64 m n))):Sem Value))∧(∀ t x y a b,eqGuard op t x y a b=pure ()):=by
 unfold flA at hg
 split at hg <;> cases hg
 all_goals
  refine ⟨fun m n h => ?_,fun m n h => ?_,fun m n t => ?_,fun t x y a b => Z⟩
  ·obtain ⟨_,s,f,h⟩:=h
   simp only [Ieee.Format.add,Ieee.Format.sub,Ieee.Format.mul,h]
   rfl
  ·obtain ⟨_,s,f,h⟩:=h
   simp only [Ieee.Format.add,Ieee.Format.sub,Ieee.Format.mul,h]
   cases Ieee.double.read m <;> rfl
  grind [binOp,Op.floatArith,FloatKind.format]
theorem zCg (hr:HR G B h H) (hn:B.length=nx) (hE:ER B f E) {op:BinOp}{g:Nat→Nat→Option Nat}(hg:flA op=some g) {tz:TypeId}{y:Operand}(hq:flM g (evO x f) (evO y f) nx h = .ok lv nx' h'):MoOk G X E H B (.binOp op t x y tz) lv nx' h':=by
 obtain ⟨g1,g2,g3,g4⟩:=zwH hg
 have nan:∀ {m n:Nat},g m n=none→∀ {u v:Value},u = .float .f64 m→v = .float .f64 n→ev E x=some u→ev E y=some v→MoOk G X E H B (.binOp op t x y tz) .nan nx h:=by
  rintro m n hmn u v rfl rfl hx hy
  refine zaq Z fun dst ty pos after g' ρ w hρ S => ⟨.float .f64 ((Question.nanBits .f64 m n).cut (w.tape w.drawn (.nanBits .f64 m n))),_,H,?_,S.drawn (w.drawn + 1),B,zDj _,hn,?_,hr⟩
  rotate_left 2
  ·simp_all [execOp,Question.forced]
  ·simp only [VR]
   exact ⟨_,Z,zv7 _⟩
 unfold flM at hq
 split at hq
 ·rename_i m n hx hy
  obtain ⟨vx,x1,x2⟩:=hE.ev x (by grind)
  rw [hx] at x2; simp only [VR] at x2; subst x2
  obtain ⟨vy,y1,y2⟩:=hE.ev y (by grind)
  rw [hy] at y2; simp only [VR] at y2; subst y2
  unfold flR at hq
  split at hq
  ·rename_i r hr'
   rw [zaV] at hq
   cases hq
   refine zaq Z fun dst ty pos after g' ρ w hρ S => ⟨.float .f64 r,w,H,?_,S,B,zDj _,hn,by grind [VR],hr⟩
   simp_all [execOp]
  grind
 ·rename_i n hx hy
  cases hq
  obtain ⟨vx,x1,x2⟩:=hE.ev x (by grind)
  rw [hx] at x2; simp only [VR] at x2; obtain ⟨m,rfl,hm⟩:=x2
  obtain ⟨vy,y1,y2⟩:=hE.ev y (by grind)
  rw [hy] at y2; simp only [VR] at y2; grind
 ·rename_i m hx hy
  cases hq
  obtain ⟨vx,x1,x2⟩:=hE.ev x (by grind)
  rw [hx] at x2; simp only [VR] at x2; subst x2
  obtain ⟨vy,y1,y2⟩:=hE.ev y (by grind)
  rw [hy] at y2; simp only [VR] at y2; grind
 ·rename_i hx hy
  cases hq
  obtain ⟨vx,x1,x2⟩:=hE.ev x (by grind)
  rw [hx] at x2; simp only [VR] at x2; obtain ⟨m,rfl,hm⟩:=x2
  obtain ⟨vy,y1,y2⟩:=hE.ev y (by grind)
  rw [hy] at y2; simp only [VR] at y2; grind
 grind
theorem zx5 (hc:CxOk X.P X.w0 X.base cx) (hr:HR G B h H) (hn:B.length=nx) (hE:ER B f E) (hq:(opM cx op).go f nx h = .ok lv nx' h'):MoOk G X E H B op lv nx' h':=by
 unfold opM at hq
 split at hq
 ·exact zxx hc hr hn hq
 ·exact zCz hc hr hn hE hq
 ·exact zCy hc hr hn hE hq
 ·exact zvu hc hr hn hE hq
 ·exact zqv hc hr hn hE hq
 ·exact zzy hc hr hn hE hq
 ·exact zxV hc hr hn hE hq (.inr rfl)
 ·exact zxV hc hr hn hE hq (.inl rfl)
 ·rename_i s d x
  rw [hc.ty] at hq
  split at hq
  ·rename_i hss
   simp only [zaJ] at hq
   exact zBy hc hr hn hE hss (by rw [hc.ty]; exact hq)
  ·cases hq
 ·exact zvR hc hr hn hE hq
 ·split at hq
  ·exact zzr hr hn hE hq
  ·cases hq
 ·split at hq
  ·rename_i hg
   exact zCg hr hn hE hg hq
  ·cases hq
 ·grind [zaJ,evC,zud]
 ·cases hq
end
variable {G:List (Nat×Obj)}
def okI (n:Nat):AI→Bool
 | .code c => okC n c
 | .lp b => okC n b
 | .scp b => okC n b
 | .reg all _ => zid n all
 | _ => true
def IR (B:BB):AI→Item→Prop
 | .code c,.code c' => c=c'
 | .blk i,.inBlock j => i=j
 | .lp b,.inLoop b' => b=b'
 | .scp b,.inScope b' => b=b'
 | .reg all rest,.inRegion ops is => ops.toList=all∧is.map (fun i => ops[i]?)=rest.map some
 | .rng l,.inRangeFunc b => ∃ k,B[l]? = some k∧b=k.b
 | .endr l,.endRangeFunc b => ∃ k,B[l]? = some k∧b=k.b
 | .beg,.beginRound => True
 | _,_ => False
def IRL (B:BB) (n:Nat):List AI→List Item→Prop
 | [],l => l=[]
 | a::l,m => ∃ b m',m=b::m'∧IR B a b∧okI n a=true∧IRL B n l m'
theorem IR.mono (hp:B <+: B') {a:AI}{b:Item}(h:IR B a b):IR B' a b:=by
 cases a <;> cases b <;> first | exact h | (obtain ⟨k,h1,h2⟩:=h; exact ⟨k,zb8 hp h1,h2⟩)
theorem IRL.mono {B B' : BB}(hp:B <+: B') {n:Nat}:∀ {l:List AI}{m:List Item},IRL B n l m→IRL B' n l m
 | [],m,h => h
 | a::l,m,h => by obtain ⟨b,m',h1,h2,h3,h4⟩:=h; exact ⟨b,m',h1,h2.mono hp,h3,IRL.mono hp h4⟩
def RdR (B:BB):Option Nat→Option Nat→Prop
 | none,none => True
 | some l,some b => ∃ k,B[l]? = some k∧b=k.b
 | _,_ => False
theorem RdR.mono (hp:B <+: B') {a b:Option Nat}(h:RdR B a b):RdR B' a b:=by
 cases a <;> cases b <;> first | exact h | (obtain ⟨k,h1,h2⟩:=h; exact ⟨k,zb8 hp h1,h2⟩)
structure FB (B:BB) (s:SF) (f:Fr) (c:Ctx) (a:Array Value) (ds:List Deferred):Prop where
  fn:c.fn=s.g
  kind:c.kind=match s.dfd with | true => .deferred | false => .normal
  rd:RdR B s.rd c.round
  slots:FR B f a
  bound:∀ t,Tr.get .undef f t≠.undef→t < a.size
  ds:ADL B s.ds ds
theorem FB.mono (hp:B <+: B') {s:SF}{f:Fr}{c:Ctx}(h:FB B s f c a ds):FB B' s f c a ds :=
 ⟨h.fn,h.kind,h.rd.mono hp,h.slots.mono hp,h.bound,ADL.mono hp h.ds⟩
def CHR (B:BB):List (LV×Bool)→List PanicEntry→Prop
 | [],l => l=[]
 | p::l,m => ∃ u m',m = { v:=u,recovered:=p.2,goexit:=false }::m'∧VR B p.1 u∧CHR B l m'
theorem CHR.mono {B B' : BB}(hp:B <+: B'):∀ {l:List (LV×Bool)}{m:List PanicEntry},CHR B l m→CHR B' l m
 | [],m,h => h
 | p::l,m,h => by obtain ⟨u,m',h1,h2,h3⟩:=h; exact ⟨u,m',h1,VR.mono hp _ _ h2,CHR.mono hp h3⟩
theorem CHR.app {B:BB}:∀ {l:List (LV×Bool)}{m:List PanicEntry}{l' : List (LV×Bool)}{m' : List PanicEntry},CHR B l m→CHR B l' m'→CHR B (l++l') (m++m')
 | [],m,l',m',h,h' => by grind [CHR]
 | p::l,m,l',m',h,h' => by obtain ⟨u,m1,h1,h2,h3⟩:=h; subst h1; exact ⟨u,m1++m',rfl,h2,CHR.app h3 h'⟩
def FrR (B:BB):AF→Frame→Prop
 | .run s f k,fr => ∃ c a ds todo,FB B s f c a ds∧IRL B a.size k todo∧fr=c.fr a ds todo
 | .ret s f,fr => ∃ (c:Ctx) (a:Array Value) (ds:List Deferred) (todo:List Item),FB B s f c a ds∧fr = { c.fr a ds todo with mode:=.returning }
 | .pan s f ch,fr => ∃ (c:Ctx) (a:Array Value) (ds:List Deferred) (todo:List Item) (ch' : List PanicEntry),FB B s f c a ds∧CHR B ch ch'∧fr = { c.fr a ds todo with mode:=.panicking ch' }
theorem FrR.mono (hp:B <+: B') {a:AF}{b:Frame}(h:FrR B a b):FrR B' a b:=by
 cases a with
 | run s f k => obtain ⟨c,a,ds,todo,h1,h2,h3⟩:=h; exact ⟨c,a,ds,todo,h1.mono hp,h2.mono hp,h3⟩
 | ret s f => obtain ⟨c,a,ds,todo,h1,h3⟩:=h; exact ⟨c,a,ds,todo,h1.mono hp,h3⟩
 | pan s f ch => obtain ⟨c,a,ds,todo,ch',h1,h2,h3⟩:=h; exact ⟨c,a,ds,todo,ch',h1.mono hp,h2.mono hp,h3⟩
def CsR (B:BB):List AF→List Frame→Prop
 | [],l => l=[]
 | a::l,m => ∃ b m',m=b::m'∧FrR B a b∧CsR B l m'
theorem CsR.mono {B B' : BB}(hp:B <+: B'):∀ {l:List AF}{m:List Frame},CsR B l m→CsR B' l m
 | [],m,h => h
 | a::l,m,h => by obtain ⟨b,m',h1,h2,h3⟩:=h; exact ⟨b,m',h1,h2.mono hp,CsR.mono hp h3⟩
def sfOf:AF→SF
 | .run s _ _ => s
 | .ret s _ => s
 | .pan s _ _ => s
def zeF (a:AF):FuncId×Bool:=((sfOf a).g,(sfOf a).rd.isSome)
def botP (p:FuncId×Bool):List AF→FuncId×Bool
 | [] => p
 | c::cs => botP (zeF c) cs
def Fin (G:List (Nat×Obj)) (P:Program) (w0:World) (base:Nat) (B:BB) (v:LV) (nx:Nat) (h:LH) (bt:FuncId×Bool) (cs0:List Frame) (m:Machine):Prop :=
 ∃ u B' H' w',B <+: B'∧B'.length=nx∧VR B' v u∧HR G B' h H'∧Sep w0 base w' H'∧match bt.2 with
  | false => ∃ fr,m=lone fr cs0 w'∧fr.fn=bt.1∧fr.leaving P w' (.returned u)
  | true => ∃ c cs1,cs0=c::cs1∧m=lone (c.finish u) cs1 w'
theorem Fin.mono {B1:BB}(hp:B <+: B1) {v:LV}{bt:FuncId×Bool}{cs0:List Frame}(hf:Fin G P w0 base B1 v nx h bt cs0 m):Fin G P w0 base B v nx h bt cs0 m:=by
 obtain ⟨u,B',H',w',h1,h2⟩:=hf
 exact ⟨u,B',H',w',hp.trans h1,h2⟩
theorem Ev.into {G G' : Machine→Prop}(h:Ev P m G) (hg:∀ m,G m→G' m):Ev P m G':=by
 obtain ⟨m',h1,h2⟩:=h; exact ⟨m',h1,hg _ h2⟩
structure Mem (G:List (Nat×Obj)) (w0:World) (base:Nat) (B:BB) (nx:Nat) (h:LH) (H:List Seg) (w:World):Prop where
  len:B.length=nx
  hr:HR G B h H
  sep:Sep w0 base w H
def Goes (G:List (Nat×Obj)) (P:Program) (w0:World) (base:Nat) (B:BB) (bt:FuncId×Bool) (cs0:List Frame) (m:Machine) (r:Res):Prop :=
 ∀ v nx' h',r = .done v nx' h'→Ev P m (Fin G P w0 base B v nx' h' bt cs0)
def Sim (P:Program) (w0:World) (base:Nat) (run:Run):Prop :=
 ∀ {G:List (Nat×Obj)} fr cs nx h B rf rcs w H,FrR B fr rf→CsR B cs rcs→Mem G w0 base B nx h H w→∀ cs0,((botP (zeF fr) cs).2=true→cs0≠[])→Goes G P w0 base B (botP (zeF fr) cs) cs0 (lone rf (rcs++cs0) w) (run fr cs nx h)
def zmB (a:Array Value):Env:=(List.range a.size).map fun t => (t,a.getD t Go.undef)
theorem ztj (a:Array Value) {t:Nat}(ht:t < a.size):Env.get (zmB a) t=some (a.getD t Go.undef):=by
 have:∀ (l:List Nat),t ∈ l→Env.get (l.map fun t => (t,a.getD t Go.undef)) t=some (a.getD t Go.undef):=by
  intro l
  induction l with
  | nil => grind
  | cons b l ih =>
   intro h
   simp only [zDo,Env.get]
   cases hb:Nat.beq b t with
   | true => simp_all
   | false =>
    rcases zDp.1 h with rfl | h
    ·simp_all
    grind
 exact this _ (zD1.2 ht)
theorem zku (a:Array Value) {t:Nat}{v:Value}(h:Env.get (zmB a) t=some v):a.getD t Go.undef=v:=by
 have:∀ (l:List Nat),Env.get (l.map fun t => (t,a.getD t Go.undef)) t=some v→a.getD t Go.undef=v:=by
  intro l
  induction l with
  | nil => grind [Env.get]
  | cons b l ih =>
   grind [Env.get,Nat.beq,zar]
 exact this _ h
theorem zf6 (a:Array Value) {v:Value}(h:ev (zmB a) x=some v):evA a x=v:=by
 cases x with
 | tmp t => exact zku a h
 | const u => exact zDM h
 | global g => exact zDM h
 | func g => exact zDM h
section
variable {B:BB}{s:SF}{f:Fr}{c:Ctx}{a:Array Value}{ds:List Deferred}
theorem FB.er (hb:FB B s f c a ds):ER B (gF f) (zmB a):=fun t ht => ⟨_,ztj a (hb.bound t ht),hb.slots t⟩
noncomputable def pS (d:Option Nat) (v:LV) (f:Fr):Fr:=match d with
 | none => f
 | some d => Tr.set .undef v f d
theorem zzc {β:Type}(d:Option Nat) (v:LV) (f:Fr) (k:Fr→β):pF d v f k=k (pS d v f):=by
 cases d with
 | none => rfl
 | some d => exact zb5 _ _ _ _ _
theorem FB.put (hb:FB B s f c a ds) {d:Option Nat}(hd:∀ t,d=some t→t < a.size) {v:LV}(hv:VR B v u):FB B s (pS d v f) c (putA a d u) ds:=by
 cases d with
 | none => exact hb
 | some d =>
  have hlt:=hd d rfl
  refine ⟨hb.fn,hb.kind,hb.rd,fun t => ?_,fun t ht => ?_,hb.ds⟩
  ·show VR B (Tr.get .undef (Tr.set .undef v f d) t) ((a.setIfInBounds d u).getD t Go.undef)
   rw [zel]
   by_cases e:t=d
   ·simp_all
   ·rw [zDb e]
    have:(a.setIfInBounds d u).getD t Go.undef=a.getD t Go.undef:=by
     simp only [zDu]
     grind
    rw [this]; exact hb.slots t
  ·show t < (a.setIfInBounds d u).size
   rw [Array.size_setIfInBounds]
   have ht:Tr.get .undef (Tr.set .undef v f d) t≠.undef:=ht
   rw [zel] at ht
   split at ht
   ·omega
   ·exact hb.bound t ht
theorem zfu (a:Array Value) (d:Option Nat) (u:Value):(putA a d u).size=a.size:=by cases d <;> simp [putA]
theorem ziY {all:List Oper}(h:zid n all=true) (ho:o ∈ all):∀ t,o.dst=some t→t < n:=by
 intro t ht
 have:=zDa.1 h o ho
 simp_all
end
noncomputable def zqY:List LV→Nat→Fr→Fr
  | [],_,f => f
  | v::l,i,f => zqY l (i + 1) (Tr.set .undef v f i)
theorem zpO {β:Type}(c:Fr→β):∀ (l:List LV) (i:Nat) (f:Fr),zxt c l i f=c (zqY l i f)
 | [],i,f => rfl
 | v::l,i,f => by
  rw [zxt,zb5,zaV,zpO c l]; rfl
theorem zjp:∀ (l:List LV) (i:Nat) (f:Fr) (t:Nat),Tr.get .undef (zqY l i f) t=if i≤t∧t < i + l.length then l.getD (t - i) .undef else Tr.get .undef f t
 | [],i,f,t => by simp_all [zqY,zDb]
 | v::l,i,f,t => by
  rw [zqY,zjp l]
  simp only [zC7]
  by_cases h1:i + 1≤t∧t < i + 1 + l.length
  ·grind
  ·rw [zDb h1,zel]
   grind
variable {G:List (Nat×Obj)}
def PrR (P:Program) (w0:World) (base:Nat) (g:FuncId) (us:List Value) (H:List Seg) (R:Value→List Seg→Prop):Prop :=
 (∀ w,Sep w0 base w H→∃ v w' H',(callFunc g us.toArray).run P w = .ok (.value v) w'∧Sep w0 base w' H'∧R v H')∨(Body P g∧SCalls P g us w0 base H R)
structure CxF (P:Program) (w0:World) (base:Nat) (cx:Cx):Prop where
  ok:CxOk P w0 base cx
  fn:∀ g f,cx.fn g=some f→P.funcs[g]? = some f∧okFn f=true
  mt:cx.mt=mtOf P
  pr:∀ (G:List (Nat×Obj)) g p,cx.pr g=some p→∀ args nx h lv nx' h' B H us,p args nx h = .ok lv nx' h'→VRL B args us→B.length=nx→HR G B h H→PrR P w0 base g us H (MR G B lv nx' h')
  mo:P.follows .mixedOrders=true
section
variable {P:Program}{w0:World}{base:Nat}{B B1:BB}{bt:FuncId×Bool}{cs0:List Frame}{m m' : Machine}{r:Res}
theorem Goes.bad :Goes G P w0 base B bt cs0 m (.bad n):=fun _ _ _ h => by cases h
theorem Goes.steps (st:Steps P m m') (h:Goes G P w0 base B bt cs0 m' r):Goes G P w0 base B bt cs0 m r:=fun v nx h' e => .steps st (h v nx h' e)
theorem Goes.step (st:step P m = .next m') (h:Goes G P w0 base B bt cs0 m' r):Goes G P w0 base B bt cs0 m r:=fun v nx h' e => .step st (h v nx h' e)
theorem Goes.mono (hp:B <+: B1) (h:Goes G P w0 base B1 bt cs0 m r):Goes G P w0 base B bt cs0 m r:=fun v nx h' e => (h v nx h' e).into fun _ hf => hf.mono hp
end
theorem ztx {B:BB}{n id:Nat}:∀ {k:List AI}{todo:List Item},IRL B n k todo→match znZ id k with
  | some k' => ∃ todo',exitTo id todo=some todo'∧IRL B n k' todo'
  | none => exitTo id todo=none
 | [],todo,h => by simp only [IRL] at h; subst h; rfl
 | a::k,todo,h => by
  obtain ⟨b,m,rfl,h1,h2,h3⟩:=h
  have ih:=ztx (id:=id) h3
  cases a with
  | blk j =>
   cases b <;> try exact h1.elim
   rename_i i
   have h1:j=i:=h1
   subst h1
   simp only [znZ]
   cases hb:Nat.beq j id with
   | true =>
    grind [zar,exitTo]
   | false =>
    have hb:¬ j=id:=fun e => by simp_all
    simp_all [exitTo,zGs,zDU]
  | _ => cases b <;> first | exact h1.elim | exact ih
theorem zmG :∀ {c r:Code},okC n c=true→findLabel c l=some r→okC n r=true:=by
 intro c
 induction c with
 | seq a b iha ihb =>
  intro r hc h
  simp only [okC,zC9] at hc
  simp only [findLabel] at h
  split at h
  ·rename_i rest hr
   cases h
   simp_all [okC,zC9]
  grind
 | label l' =>
  intro r hc h
  simp only [findLabel] at h
  split at h
  ·cases h; rfl
  grind
 | _ => grind [findLabel]
theorem ztb {B:BB}{n l:Nat}:∀ {k:List AI}{todo:List Item},IRL B n k todo→match znU l k with
  | some k' => ∃ todo',gotoIn l todo=some todo'∧IRL B n k' todo'
  | none => gotoIn l todo=none
 | [],todo,h => by simp only [IRL] at h; subst h; rfl
 | a::k,todo,h => by
  obtain ⟨b,m,rfl,h1,h2,h3⟩:=h
  have ih:=ztb (l:=l) h3
  cases a with
  | scp c =>
   cases b <;> try exact h1.elim
   rename_i c'
   have h1:c=c':=h1
   subst h1
   simp only [znU,gotoIn]
   cases hb:findLabel c l with
   | some r => exact ⟨_,rfl,.code r,_,rfl,rfl,zmG h2 hb,.inScope c,m,rfl,rfl,h2,h3⟩
   | none => exact ih
  | _ => cases b <;> first | exact h1.elim | exact ih
section
variable {B:BB}{s:SF}{f:Fr}{c:Ctx}{a:Array Value}{ds:List Deferred}
theorem FB.asB (hb:FB B s f c a ds) {t:Nat}{w u0:Bool}(hu:gF f t = .bool u0) (h:asB w (gF f t)=some b):∃ u,a[t]? = some (.bool u)∧b=(u == w):=by
 rw [hu] at h
 have hs:=hb.slots t
 have hn:=hb.bound t (by grind [gF])
 have hu' : Tr.get .undef f t = .bool u0:=hu
 rw [hu'] at hs; simp only [VR] at hs
 refine ⟨u0,?_,?_⟩
 ·simp_all
 ·cases w <;> (cases h; cases u0 <;> rfl)
theorem FB.wanted (hb:FB B s f c a ds) {ops:Array Oper}(h:ziA ops.toList o.guard (gF f)=some b):Region.wanted o (yielded ops a)=b:=by
 unfold ziA at h
 split at h
 ·grind [Region.wanted]
 ·rename_i j w hg
  split at h
  ·rename_i t ht
   unfold zAg at ht
   split at ht
   ·rename_i oj hj
    have hj' : ops[j]? = some oj:=by grind
    cases htup:gF f t with
    | tup l =>
     have hn:=hb.bound t (by grind [gF])
     have hs:=hb.slots t
     have hu' : Tr.get .undef f t = .tup l:=htup
     rw [hu'] at hs; simp only [VR] at hs
     obtain ⟨vs,hvs,_⟩:=hs
     have hv:a[t]? = some (.tuple vs):=by
      simp_all
     have hb0:b=false:=by
      rw [htup] at h
      cases l with
      | nil => cases h; rfl
      | cons x l => cases h
     grind [Region.wanted,yielded]
    | bool u0 =>
     obtain ⟨u,h1,rfl⟩:=hb.asB (u0:=u0) htup h
     grind [yielded,Region.wanted]
    | _ => rw [htup] at h; cases h
   grind
  grind
theorem FB.evA (hb:FB B s f c a ds) (hx:evO x (gF f)≠.undef):VR B (evO x (gF f)) (evA a x):=by
 obtain ⟨v,h1,h2⟩:=hb.er.ev x hx
 grind [zf6]
end
inductive Leaves:List Item→Option Code→Prop where
  | end_:Leaves [] none
  | ret (k:List Item):Leaves (.code .ret::k) (some .ret)
  | exit {id:Nat}{k:List Item}(h:exitTo id k=none):Leaves (.code (.exit id)::k) (some (.exit id))
  | goto {l:Nat}{k:List Item}(h:gotoIn l k=none):Leaves (.code (.goto l)::k) (some (.goto l))
theorem Leaves.round {c:Ctx}(hl:Leaves todo jump) (hr:c.round=some l) (hk:c.kind = .normal) {fr:Frame}{L:Loop}(hb:w.heap[l]? = some (.loop L)) :
  step P (lone (c.fr a ds todo) (fr::cs) w) = .next (lone (fr.finish (.bool jump.isNone)) cs { w with heap:=w.heap.setIfInBounds l (.loop { L with state:=if jump.isNone then .ready else .done,pending:=jump }) }):=by
 have hrun:=zfH (P:=P) hb jump
 refine step_lone_go ?_
 cases hl with
 | end_ =>
  simp_all [stepG,stepG.exec,Ctx.fr,Sem.runT_eq,GStep.bare_after,doReturn]
 | ret k =>
  simp_all [stepG,stepG.exec,Ctx.fr,Sem.runT_eq,GStep.bare_after,doReturn]
 | exit h =>
  simp_all [stepG,stepG.exec,Ctx.fr,Option.elim_none,Sem.runT_eq,GStep.bare_after,doReturn]
 | goto h =>
  simp_all [stepG,stepG.exec,Ctx.fr,Option.elim_none,Sem.runT_eq,GStep.bare_after,doReturn]
variable {G:List (Nat×Obj)}
section
variable {P:Program}{w0:World}{base:Nat}{cx:Cx}{ih:Run}{B:BB}{s:SF}{f:Fr}{c:Ctx}{a:Array Value}{ds:List Deferred}{cs:List AF}{rcs:List Frame}{nx:Nat}{h:LH}{H:List Seg}{w:World}{cs0:List Frame}
theorem Mem.loop (M:Mem G w0 base B nx h H w) {fn:FuncId}{lf:Fr}{ps:List Tmp}{assign:Code}{dfs:Nat}(hi:atB h l = .loop st pend fn lf ps assign body dfs) (hk:B[l]? = some k) :
  ∃ L,w.heap[k.b]? = some (.loop L)∧LoopR B L st pend fn lf ps assign body dfs∧∀ st' pend',(∀ c,pend' = some c→∀ n,okC n c=true) →
   ∃ H',Mem G w0 base B nx (Tr.set .gone (.loop st' pend' fn lf ps assign body dfs) h l) H' { w with heap:=w.heap.setIfInBounds k.b (.loop { L with state:=st',pending:=pend' }) }:=by
 obtain ⟨j,obj,a1,a2,a3⟩:=M.hr.put (i:=l) (by rw [hi]; rfl) hk
 rw [hi] at a2
 obtain ⟨L,rfl,a4⟩:=a2
 exact ⟨L,(M.sep.at_ a1 (j:=0) rfl).1,a4,fun st' pend' hj => ⟨H.set j [(k.b,.loop { L with state:=st',pending:=pend' })],M.len,a3 _ _ ⟨_,rfl,⟨a4.okA,a4.okB,a4.okP,hj,rfl,rfl,a4.fn,a4.slots,a4.params,a4.assign,a4.body,a4.dfs,a4.bound⟩⟩,M.sep.setObj a1 (j:=0) rfl _⟩⟩
theorem CsR.cons {a:AF}{l:List AF}{m:List Frame}(h:CsR B (a::l) m):∃ b m',m=b::m'∧FrR B a b∧CsR B l m':=h
theorem Goes.run (hs:Sim P w0 base ih) (hb:FB B s f c a ds) {k:List AI}(hk:IRL B a.size k todo) (hcs:CsR B cs rcs) (M:Mem G w0 base B nx h H w) (hne:(botP (s.g,s.rd.isSome) cs).2=true→cs0≠[]) :
  Goes G P w0 base B (botP (s.g,s.rd.isSome) cs) cs0 (lone (c.fr a ds todo) (rcs++cs0) w) (ih (.run s f k) cs nx h) :=
 hs (.run s f k) cs nx h B _ rcs w H ⟨c,a,ds,todo,hb,hk,rfl⟩ hcs M cs0 hne
theorem zis (hs:Sim P w0 base ih) {fr:AF}{rf:Frame}(hf:FrR B fr rf) (hcs:CsR B cs rcs) (M:Mem G w0 base B nx h H w) (hne:(botP (zeF fr) cs).2=true→cs0≠[]) {v:LV}(hv:VR B v u) :
  Goes G P w0 base B (botP (zeF fr) cs) cs0 (lone (rf.finish u) (rcs++cs0) w) (finA v fr fun fr => ih fr cs nx h):=by
 cases fr with
 | ret s f => exact Goes.bad
 | pan s f ch => exact Goes.bad
 | run s f k =>
  obtain ⟨c,a,ds,todo,hb,hk,rfl⟩:=hf
  simp only [finA]
  unfold finK
  split
  ·rename_i all o os k
   obtain ⟨i,m,rfl,h1,h2,h3⟩:=hk
   cases i <;> try exact h1.elim
   rename_i ops is
   obtain ⟨e1,e2⟩:=h1
   subst e1
   cases is with
   | nil => grind
   | cons i is =>
    simp only [zDo,zD2] at e2
    obtain ⟨ho,e2⟩:=e2
    rw [zbq ho,zzc]
    have hmem:o ∈ ops.toList:=by
     grind
    exact Goes.run hs (hb.put (ziY h2 hmem) hv) (k:=.reg ops.toList os::k) (todo:=.inRegion ops is::m) ⟨_,_,rfl,⟨rfl,e2⟩,by rw [zfu]; exact h2,by grind [zfu]⟩ hcs M hne
  ·rename_i l k
   obtain ⟨i,m,rfl,h1,h2,h3⟩:=hk
   cases i <;> try exact h1.elim
   rename_i b
   exact Goes.run hs hb (k:=.endr l::k) (todo:=.endRangeFunc b::m) ⟨_,_,rfl,h1,rfl,h3⟩ hcs M hne
  ·exact Goes.bad
theorem zwU (hs:Sim P w0 base ih) {bt:FuncId}(hcs:CsR B cs rcs) (M:Mem G w0 base B nx h H w) (hne:(botP (bt,true) cs).2=true→cs0≠[]) {v:LV}(hv:VR B v u) (st:∀ fr rest,rcs++cs0=fr::rest→Steps P m (lone (fr.finish u) rest w)) :
  Goes G P w0 base B (botP (bt,true) cs) cs0 m (endR ih v cs nx h):=by
 cases cs with
 | nil =>
  simp only [CsR] at hcs
  subst hcs
  have hne:=hne rfl
  cases cs0 with
  | nil => grind
  | cons c0 cs1 =>
   intro v' nx' h' e
   cases e
   exact ⟨_,st c0 cs1 rfl,u,B,H,w,zDj _,M.len,hv,M.hr,M.sep,c0,cs1,rfl,rfl⟩
 | cons fr cs =>
  obtain ⟨b,rcs,rfl,hf,hcs⟩:=hcs
  exact Goes.steps (st b (rcs++cs0) rfl) (zis hs hf hcs M hne hv)
theorem zho (hs:Sim P w0 base ih) (hb:FB B s f c a ds) (hcs:CsR B cs rcs) (M:Mem G w0 base B nx h H w) (hne:(botP (s.g,s.rd.isSome) cs).2=true→cs0≠[]) (hl:Leaves todo jump) :
  Goes G P w0 base B (botP (s.g,s.rd.isSome) cs) cs0 (lone (c.fr a ds todo) (rcs++cs0) w) (zmp ih s f jump cs nx h):=by
 unfold zmp
 have hrd:=hb.rd
 split
 ·rename_i l hl2
  rw [hl2] at hrd hne ⊢
  cases hcr:c.round with
  | none => rw [hcr] at hrd; exact hrd.elim
  | some b =>
   rw [hcr] at hrd
   obtain ⟨k,hk,rfl⟩:=hrd
   unfold zyb
   split
   ·rename_i hdf
    split
    ·rename_i st pend fn lf ps assign body dfs hlo hds
     rw [zb5]
     obtain ⟨L,h1,h2,h3⟩:=M.loop hlo hk
     have hkind:c.kind = .normal:=by rw [hb.kind,hdf]
     obtain ⟨H',M'⟩:=h3 (if jump.isNone then .ready else .done) jump (fun c hc n => by subst hc; cases hl <;> rfl)
     have e:stJ jump=(if jump.isNone then .ready else .done):=by cases jump <;> rfl
     rw [e]
     refine zwU hs (bt:=s.g) hcs M' hne (zby (B:=B) Z) fun fr rest he => ?_
     rw [he]
     exact .one (hl.round hcr hkind h1)
    ·exact Goes.bad
   ·exact Goes.bad
 ·rename_i hl2
  rw [hl2] at hrd
  have hcr:c.round=none:=by
   cases hcr:c.round with
   | none => rfl
   | some b => rw [hcr] at hrd; exact hrd.elim
  have hne' : (botP (zeF (.ret s f)) cs).2=true→cs0≠[]:=hne
  split
  ·cases hl
   exact Goes.step (zth hcr) (hs (.ret s f) cs nx h B _ rcs w H ⟨c,a,ds,_,hb,Z⟩ hcs M cs0 hne')
  ·cases hl
   exact Goes.step (zte hcr) (hs (.ret s f) cs nx h B _ rcs w H ⟨c,a,ds,_,hb,Z⟩ hcs M cs0 hne')
  ·exact Goes.bad
theorem zri (hs:Sim P w0 base ih) (hb:FB B s f c a ds) (hcs:CsR B cs rcs) (M:Mem G w0 base B nx h H w) (hne:(botP (s.g,s.rd.isSome) cs).2=true→cs0≠[]) {k' : Option (List AI)}{j:Code}(hto:match k' with
   | some k' => ∃ todo',step P (lone (c.fr a ds todo) (rcs++cs0) w) = .next (lone (c.fr a ds todo') (rcs++cs0) w)∧IRL B a.size k' todo'
   | none => Leaves todo (some j)) :
  Goes G P w0 base B (botP (s.g,s.rd.isSome) cs) cs0 (lone (c.fr a ds todo) (rcs++cs0) w) (toA ih k' s f j cs nx h):=by
 unfold toA
 split
 ·obtain ⟨todo',st,hk⟩:=hto
  exact Goes.step st (hs (.run s f _) cs nx h B _ rcs w H ⟨c,a,ds,_,hb,hk,rfl⟩ hcs M cs0 hne)
 grind [zho]
end
variable {G:List (Nat×Obj)}
theorem zBM (P:Program) (p:Addr) (a b:ByteArray) (ty:TypeId) (ts:Array TypeId) (w:World):(Builtin.ssaWrapNilChk_ ts ty #[.pointer (some p),.string a,.string b]).run P w = .ok (.pointer (some p)) w:=rfl
theorem zmS (g:FuncId) (q:Q) (args:List LV) (l:Nat) (largs:List LV):clF g q args≠.round l largs:=by
 cases q <;> (intro h; cases h)
theorem zt2 {cx:Cx}(m:Option Mw) (v:LV) (args:List LV) (h:LH) (l:Nat) (largs:List LV):clM cx m v args h≠.round l largs:=by
 cases m with
 | none => intro h; cases h
 | some m => cases m with
  | plain g => intro h; cases h
  | loads g e => exact zmS _ _ _ _ _
  | fields g o => exact zmS _ _ _ _ _
section
variable {P:Program}{w0:World}{base:Nat}{cx:Cx}{B:BB}{h:LH}{H:List Seg}{f:SlF}{E:Env}
theorem zBU (X:Pt) (hc:CxF X.P X.w0 X.base cx) (hr:HR G B h H) {m:String}{v:Value}(hv:VR B lv v) {args:List LV}(hu:VRL B args us) {largs:List LV}(hq:clM cx (cx.mt t m) lv args h = .fn g largs) :
  ∃ us',VRL B largs us'∧∀ w,Sep X.w0 X.base w H→(callMethod (.iface t v) m us.toArray).run X.P w=(callFunc g us'.toArray).run X.P w:=by
 rw [hc.mt] at hq
 unfold mtOf at hq
 cases hi:X.P.info? t with
 | none => rw [hi] at hq; cases hq
 | some i =>
  rw [hi] at hq
  simp only at hq
  cases hm:i.methods.find? (fun r => r.name == m) with
  | none => rw [hm] at hq; cases hq
  | some r =>
   rw [hm] at hq
   simp only at hq
   obtain ⟨fuel,hf⟩:∃ fuel,X.P.types.size + Made.depth=fuel + 1:=⟨X.P.types.size + 99,rfl⟩
   have hti:∀ w,(typeInfo t).run X.P w = .ok i w:=fun w => by simp [typeInfo,hi]
   have key:∀ (rv:Value) (us' : List Value),us' = rv::us→(∀ w,Sep X.w0 X.base w H→(method (fuel + 1) t v m).run X.P w = .ok (g,rv) w)→∀ w,Sep X.w0 X.base w H→(callMethod (.iface t v) m us.toArray).run X.P w=(callFunc g us'.toArray).run X.P w:=by
    rintro rv us' rfl hmr w S
    unfold callMethod
    simp_all
   unfold mtR at hq
   split at hq
   ·rename_i fn hp hfn
    split at hq
    ·rename_i e hu2
     simp only [clM] at hq
     cases hq
     refine ⟨v::us,zaB hv hu,key v _ Z fun w S => ?_⟩
     simp only [method,Sem.run_bind,hti,Result.andThen_ok,hm,hp,hfn,follow,Sem.run_pure,receiverAt,run_underlying hu2,Place.get]
    ·cases hq
   ·rename_i fn hp hfn
    have hpe:r.path.isEmpty=true:=by simp_all
    split at hq
    ·rename_i e hu2
     simp only [clM,clF] at hq
     split at hq
     ·rename_i lv' hl
      cases hq
      obtain ⟨p,u,rfl,h3,h4⟩:=zlk (X:=X) hc.ok hr hl hv
      refine ⟨u::us,zaB h3 hu,key u _ Z fun w S => ?_⟩
      have:=h4 w S
      simp only [method,Sem.run_bind,hti,Result.andThen_ok,hm,hp,hfn,follow,Sem.run_pure,receiverAt,run_underlying hu2,Place.get,hpe,zEm,strVal,zBM,asAddr,this]
     grind
    ·rename_i d hne hu2
     simp only [clM] at hq
     cases hq
     refine ⟨v::us,zaB hv hu,key v _ Z fun w S => ?_⟩
     simp only [method,Sem.run_bind,hti,Result.andThen_ok,hm,hp,hfn,follow,Sem.run_pure,receiverAt,run_underlying hu2]
     cases d <;> first | exact absurd rfl (hne _) | grind [Place.get,Sem.run_pure,Result.andThen_ok]
    ·cases hq
   ·rename_i s j fn hp hfn
    split at hq
    ·rename_i fs hus
     split at hq
     ·rename_i fd hfd
      split at hq
      ·rename_i n hag hsz
       simp only [clM,clF] at hq
       split at hq
       ·rename_i lv' hl
        cases hq
        obtain ⟨b,o,rfl,h3⟩:=zoc hl hv
        refine ⟨_::us,zaB h3 hu,key _ _ Z fun w S => ?_⟩
        have hs:(sizeOf fd.type).run X.P w = .ok (n + 1) w:=by
         unfold szOf at hsz
         cases hif:X.P.info? fd.type with
         | none => grind
         | some inf => simp_all [sizeOf,typeInfo]
        simp only [method,Sem.run_bind,hti,Result.andThen_ok,hm,hp,hfn,follow,run_underlying hus,hfd,zEm,Place.get,Sem.run_pure,asAddr,fieldPlace,hs,Nat.succ_ne_zero,zDU]
        cases hut:X.P.underlying fd.type with
        | none => rw [hut] at hag; cases hag
        | some d =>
         rw [hut] at hag
         cases d <;> first | (cases hag; done) | simp [receiverAt,run_underlying hut,Addr.add]
       grind
      ·cases hq
     ·cases hq
    ·cases hq
   ·cases hq
def ClR (X:Pt) (B:BB) (H:List Seg) (E:Env) (cl:Callee) (xs:Array Operand):Cl→Prop
 | .none => True
 | .fn g args => ∃ us,VRL B args us∧∀ ρ,(∀ x v,ev E x=some v→ρ x=v)→∀ ts ty w,Sep X.w0 X.base w H→(do let d ← resolve ρ ⟨cl,xs,ts⟩ ty; invoke d.target d.args).run X.P w=(callFunc g us.toArray).run X.P w
 | .round l args => ∃ k us,B[l]? = some k∧VRL B args us∧∀ ρ,(∀ x v,ev E x=some v→ρ x=v)→∀ ts ty w,Sep X.w0 X.base w H→(do let d ← resolve ρ ⟨cl,xs,ts⟩ ty; invoke d.target d.args).run X.P w=(Instr.yield k.b us.toArray).run X.P w
theorem zmU (X:Pt) (hc:CxF X.P X.w0 X.base cx) (hr:HR G B h H) (hE:ER B f E) :ClR X B H E cl xs ((zem cx cl xs.toList).go f h):=by
 have args:∀ {k:List LV→Cl},(∀ us,defd (evL xs.toList f)=true→evs E xs.toList=some us→VRL B (evL xs.toList f) us→ClR X B H E cl xs (k (evL xs.toList f)))→ClR X B H E cl xs (evC .none k (evL xs.toList f)):=by
  intro k hk
  unfold evC
  split
  ·rename_i hd
   obtain ⟨us,u1,u2⟩:=zgi hE xs.toList (zdR hd)
   grind
  ·trivial
 unfold zem
 split
 ·rename_i g
  simp only [zaJ]
  refine args fun us hd u1 u2 => ⟨us,u2,fun ρ hρ ts ty w S => ?_⟩
  have hg:ρ (.func g) = .func (.func g) #[] #[]:=hρ _ _ rfl
  grind [resolve,Deferred.ofValue,zcp,invoke]
 ·rename_i x hne
  simp only [zaJ]
  refine args fun us hd u1 u2 => ?_
  unfold clV
  split
  ·rename_i g u c hx
   obtain ⟨vx,x1,x2⟩:=hE.ev x (by grind)
   rw [hx] at x2; simp only [VR] at x2
   obtain ⟨ua,ca,rfl,y1,y2⟩:=x2
   refine ⟨ua.toList++(us++ca.toList),VRL.app y1 (VRL.app u2 y2),fun ρ hρ ts ty w S => ?_⟩
   have hg:=hρ _ _ x1
   have e:ua++us.toArray++ca=(ua.toList++(us++ca.toList)).toArray:=by
    grind
   grind [resolve,Deferred.ofValue,zcp,invoke,Sem.run_bind,Sem.run_pure,Result.andThen_ok]
  ·rename_i l hx
   obtain ⟨vx,x1,x2⟩:=hE.ev x (by grind)
   rw [hx] at x2; simp only [VR] at x2
   obtain ⟨k,hk,rfl⟩:=x2
   refine ⟨k,us,hk,u2,fun ρ hρ ts ty w S => ?_⟩
   grind [resolve,Deferred.ofValue,zcp,invoke]
  ·trivial
 ·rename_i r m
  simp only [zaJ]
  refine args fun us hd u1 u2 => ?_
  unfold clI
  split
  ·rename_i t v hx
   obtain ⟨vx,x1,x2⟩:=hE.ev r (by grind)
   rw [hx] at x2; simp only [VR] at x2
   obtain ⟨u,rfl,x3⟩:=x2
   cases hq:clM cx (cx.mt t m) v (evL xs.toList f) h with
   | none => trivial
   | round l largs =>
    grind [absurd,zt2]
   | fn g largs =>
    obtain ⟨us',z1,z2⟩:=zBU X hc hr x3 u2 hq
    refine ⟨us',z1,fun ρ hρ ts ty w S => ?_⟩
    have hg:=hρ _ _ x1
    rw [← z2 w S]
    have e:(#[Value.iface t u]++us.toArray).extract 1 (#[Value.iface t u]++us.toArray).size=us.toArray:=by
     simp_all
    have e0:(#[Value.iface t u]++us.toArray)[0]? = some (Value.iface t u):=by simp
    simp only [resolve,hg,zcp hρ u1,invoke,Sem.run_bind,Sem.run_pure,Result.andThen_ok,e0,e]
  ·trivial
 ·trivial
end
variable {G:List (Nat×Obj)}
def zwi (dfd:Bool):CallKind:=match dfd with
 | true => .deferred
 | false => .normal
theorem VRL.at {B:BB}:∀ {l:List LV}{m:List Value},VRL B l m→∀ i,VR B (l.getD i .undef) (m.getD i Go.undef)
 | [],m,h,i => by grind [VRL,VR]
 | a::l,m,h,i => by
  simp only [VRL] at h; obtain ⟨b,m',rfl,h1,h2⟩:=h
  cases i with
  | zero => grind
  | succ i => simpa using VRL.at h2 i
theorem zAf (t:Nat):Tr.get LV.undef (.e:Fr) t = .undef:=by
 have:∀ p:List Bool,getP LV.undef p (.e:Fr) = .undef:=by
  intro p
  cases p with
  | nil => rfl
  | cons b p => cases b <;> rfl
 exact this _
section
variable {P:Program}{w0:World}{base:Nat}{cx:Cx}{ih:Run}{B:BB}{s:SF}{f:Fr}{c:Ctx}{a:Array Value}{ds:List Deferred}{cs:List AF}{rcs:List Frame}{nx:Nat}{h:LH}{H:List Seg}{w:World}{cs0:List Frame}
theorem FB.args {args:List LV}(hu:VRL B args us) (hn:args.length≤n) (g:FuncId) (dfd:Bool) :
  FB B ⟨g,[],dfd,none⟩ (zqY args 0 .e) ⟨g,zwi dfd,none⟩ (us.toArray++Array.replicate (n - us.length) Go.undef) []:=by
 have hl:=hu.len
 refine ⟨Z,by cases dfd <;> rfl,trivial,fun t => ?_,fun t ht => ?_,Z⟩
 ·rw [zjp,zAf]
  split
  ·rename_i h1
   rw [zFp]
   have h2:t < us.length:=by omega
   have:(us.toArray++Array.replicate (n - us.length) Go.undef).getD t Go.undef=us.getD t Go.undef:=by
    simp_all [zDu,zEx]
   rw [this]
   exact hu.at t
  grind [VR]
 ·rw [zjp,zAf] at ht
  grind
theorem zdG (hc:CxF P w0 base cx) (hs:Sim P w0 base ih) {dfd:Bool}{args:List LV}(hu:VRL B args us) (hcs:CsR B cs rcs) (M:Mem G w0 base B nx h H w) (hne:(botP (g,false) cs).2=true→cs0≠[]) (st:Body P g→Steps P m (lone (Frame.enter P g us.toArray (zwi dfd)) (rcs++cs0) w)) :
  Goes G P w0 base B (botP (g,false) cs) cs0 m (zhT cx g dfd args fun fr => ih fr cs nx h):=by
 unfold zhT
 split
 ·exact Goes.bad
 ·rename_i fn hf
  obtain ⟨hf,hok⟩:=hc.fn g fn hf
  unfold okFn at hok
  rw [zC9] at hok
  split
  ·grind
  ·rename_i b hb
   split
   ·rename_i hle
    have hle:=zaP.1 hle
    rw [zpO]
    have hbody:Body P g:=⟨fn,hf,by grind,by grind⟩
    have henter:Frame.enter P g us.toArray (zwi dfd)=Ctx.fr ⟨g,zwi dfd,none⟩ (us.toArray++Array.replicate (fn.ntmps - us.length) Go.undef) [] [.code b]:=by
     grind [Frame.enter,Ctx.fr]
    refine Goes.steps (st hbody) ?_
    rw [henter]
    have hokc:okC fn.ntmps b=true:=by grind
    have hsz:(us.toArray++Array.replicate (fn.ntmps - us.length) Go.undef).size=fn.ntmps:=by
     have:=hu.len
     grind
    exact Goes.run (s:=⟨g,[],dfd,none⟩) hs (FB.args hu hle g dfd) (k:=[.code b]) (todo:=[.code b]) ⟨_,_,Z,Z,by rw [hsz]; exact hokc,Z⟩ hcs M hne
   ·exact Goes.bad
noncomputable def zvS:List Nat→List LV→Fr→Fr
 | t::ts,v::vs,f => zvS ts vs (Tr.set .undef v f t)
 | _,_,f => f
theorem zk0 {β:Type}(c:Fr→β):∀ (ts:List Nat) (vs:List LV) (f:Fr),zsa c ts vs f=c (zvS ts vs f)
 | [],vs,f => rfl
 | t::ts,[],f => rfl
 | t::ts,v::vs,f => by rw [zsa,zb5,zk0 c ts]; rfl
theorem zuF:∀ (ts:List Nat) (vs:List LV) (us:List Value) {f:Fr}{a:Array Value},VRL B vs us→ts.all (fun t => Nat.blt t a.size)=true→FB B s f c a ds →
  FB B s (zvS ts vs f) c ((ts.zip us).foldl (fun tmps p => tmps.setIfInBounds p.1 p.2) a) ds∧((ts.zip us).foldl (fun tmps p => tmps.setIfInBounds p.1 p.2) a).size=a.size
 | [],vs,us,f,a,hv,ht,hb => ⟨hb,rfl⟩
 | t::ts,[],us,f,a,hv,ht,hb => by simp only [VRL] at hv; subst hv; exact ⟨hb,rfl⟩
 | t::ts,v::vs,us,f,a,hv,ht,hb => by
  simp only [VRL] at hv; obtain ⟨u,us,rfl,h1,h2⟩:=hv
  simp only [zFj,zC9] at ht
  have h3:=hb.put (d:=some t) (fun t' e => by simp_all) h1
  have hsz:(putA a (some t) u).size=a.size:=zfu a (some t) u
  have h4:=zuF ts vs us (f:=pS (some t) v f) (a:=putA a (some t) u) h2 (by grind) h3
  exact ⟨h4.1,by rw [← hsz]; exact h4.2⟩
theorem zke (hs:Sim P w0 base ih) {args:List LV}(hk:B[l]? = some k) (hu:VRL B args us) (hcs:CsR B cs rcs) (M:Mem G w0 base B nx h H w) {fn:FuncId}{lf:Fr}{ps:List Tmp}{assign:Code}{dfs:Nat}(hl:atB h l = .loop st pend fn lf ps assign body dfs) (hlen:args.length=ps.length)
  (hne:(botP (fn,true) cs).2=true→cs0≠[])
  (stp:∀ f tmps assign body,(Instr.yield k.b us.toArray).run P w = .ok (.round k.b f tmps assign body) w→Steps P m (lone (Frame.round k.b f tmps assign body .normal) (rcs++cs0) w)) :
  Goes G P w0 base B (botP (fn,true) cs) cs0 m (ih (.run ⟨fn,[],false,some l⟩ (zvS ps args lf) [.code assign,.beg,.code body]) cs nx h):=by
 obtain ⟨L,h1,h2,_⟩:=M.loop hl hk
 have hul:=hu.len
 have hpl:L.params.size=ps.length:=by rw [← h2.params]; simp
 have hy:(Instr.yield k.b us.toArray).run P w = .ok (.round k.b L.fn ((L.params.zip us.toArray).foldl (fun tmps (t,a) => tmps.setIfInBounds t a) L.tmps) L.assign L.body) w:=by
  simp_all [Instr.yield,Sem.run_bind,zbY,Result.andThen_ok,zDb]
 refine Goes.steps (stp _ _ _ _ hy) ?_
 have hz:(L.params.zip us.toArray).foldl (fun tmps (t,a) => tmps.setIfInBounds t a) L.tmps=(ps.zip us).foldl (fun tmps p => tmps.setIfInBounds p.1 p.2) L.tmps:=by
  rw [← h2.params,← zFM,Array.toList_zip]
 rw [hz]
 obtain ⟨f1,f2⟩:=zuF (B:=B) (s:=⟨fn,[],false,some l⟩) (c:=⟨L.fn,.normal,some k.b⟩) (ds:=[]) ps args us (f:=lf) (a:=L.tmps) hu h2.okP ⟨h2.fn,rfl,⟨k,hk,rfl⟩,h2.slots,h2.bound,rfl⟩
 have hfr:Frame.round k.b L.fn ((ps.zip us).foldl (fun tmps p => tmps.setIfInBounds p.1 p.2) L.tmps) L.assign L.body .normal=Ctx.fr ⟨L.fn,.normal,some k.b⟩ ((ps.zip us).foldl (fun tmps p => tmps.setIfInBounds p.1 p.2) L.tmps) [] [.code assign,.beginRound,.code body]:=by
  simp [Frame.round,Ctx.fr,h2.assign,h2.body]
 rw [hfr]
 exact Goes.run (s:=⟨fn,[],false,some l⟩) hs f1 (k:=[.code assign,.beg,.code body]) (todo:=[.code assign,.beginRound,.code body]) ⟨_,_,Z,Z,by rw [f2]; exact h2.okA,_,_,Z,trivial,Z,_,_,Z,Z,by rw [f2]; exact h2.okB,Z⟩ hcs M hne
end
variable {G:List (Nat×Obj)}
section
variable {P:Program}{w0:World}{base:Nat}{cx:Cx}{ih:Run}{B:BB}{s:SF}{f:Fr}{c:Ctx}{a:Array Value}{ds:List Deferred}{cs:List AF}{rcs:List Frame}{nx:Nat}{h:LH}{H:List Seg}{w:World}{cs0:List Frame}
  {ops:Array Oper}{i:Nat}{is:List Nat}{o:Oper}{os:List Oper}{k:List AI}{todo:List Item}
theorem Mem.mono (M:Mem G w0 base B' nx h H w):B'.length=nx:=M.len
theorem zdP (hs:Sim P w0 base ih) (hb:FB B s f c a ds) (ho:ops[i]? = some o) (his:is.map (fun i => ops[i]?)=os.map some) (hok:zid a.size ops.toList=true) (hk:IRL B a.size k todo) (hcs:CsR B cs rcs) (hne:(botP (s.g,s.rd.isSome) cs).2=true→cs0≠[])
  (hp:B <+: B') {H' : List Seg}(M:Mem G w0 base B' nx' h' H' w') {v:LV}(hv:VR B' v u) (st:Steps P m (lone (c.fr (putA a o.dst u) ds (.inRegion ops is::todo)) (rcs++cs0) w')) :
  Goes G P w0 base B (botP (s.g,s.rd.isSome) cs) cs0 m (pF o.dst v f fun f => ih (.run s f (.reg ops.toList os::k)) cs nx' h'):=by
 rw [zzc]
 have hmem:o ∈ ops.toList:=by
  grind
 refine (Goes.steps st ?_).mono hp
 exact Goes.run hs ((hb.mono hp).put (ziY hok hmem) hv) (k:=.reg ops.toList os::k) (todo:=.inRegion ops is::todo) ⟨_,_,Z,⟨Z,his⟩,by rw [zfu]; exact hok,by rw [zfu]; exact hk.mono hp⟩ (hcs.mono hp) M hne
def ptOf (P:Program) (c:Ctx) (a:Array Value) (cs:List Frame) (w0:World) (base:Nat):Pt:=⟨P,c,a.size,cs,fun _ => True,w0,base⟩
theorem zBC (hc:CxF P w0 base cx) (hs:Sim P w0 base ih) (hb:FB B s f c a ds) (ho:ops[i]? = some o) (hw:Region.wanted o (yielded ops a)=true) (his:is.map (fun i => ops[i]?)=os.map some) (hok:zid a.size ops.toList=true) (hk:IRL B a.size k todo) (hcs:CsR B cs rcs) (M:Mem G w0 base B nx h H w) (hne:(botP (s.g,s.rd.isSome) cs).2=true→cs0≠[]) :
  Goes G P w0 base B (botP (s.g,s.rd.isSome) cs) cs0 (lone (c.fr a ds (.inRegion ops (i::is)::todo)) (rcs++cs0) w) (qK s.g ((opQ cx o.op).go (gF f) h) fun v => pF o.dst v f fun f => ih (.run s f (.reg ops.toList os::k)) cs nx h):=by
 cases hq:(opQ cx o.op).go (gF f) h with
 | bad n => exact Goes.bad
 | ok v =>
  simp only [qK]
  obtain ⟨u,hv,hd⟩:=zx4 (X:=ptOf P c a (rcs++cs0) w0 base) hc.ok M.hr hb.er hq
  obtain ⟨u',H',w',⟨rfl,rfl⟩,S',st⟩:=hd o.dst o.type o.pos o.after o.guard ops i is todo ds a w ho hw (fun x v h => zf6 a h) M.sep
  exact zdP hs hb ho his hok hk hcs hne (zDj _) ⟨M.len,M.hr,S'⟩ hv st
theorem zBW (hc:CxF P w0 base cx) (hs:Sim P w0 base ih) (hb:FB B s f c a ds) (ho:ops[i]? = some o) (hw:Region.wanted o (yielded ops a)=true) (his:is.map (fun i => ops[i]?)=os.map some) (hok:zid a.size ops.toList=true) (hk:IRL B a.size k todo) (hcs:CsR B cs rcs) (M:Mem G w0 base B nx h H w) (hne:(botP (s.g,s.rd.isSome) cs).2=true→cs0≠[]) :
  Goes G P w0 base B (botP (s.g,s.rd.isSome) cs) cs0 (lone (c.fr a ds (.inRegion ops (i::is)::todo)) (rcs++cs0) w) (rsR s.g ((opM cx o.op).go (gF f) nx h) fun v nx h => pF o.dst v f fun f => ih (.run s f (.reg ops.toList os::k)) cs nx h):=by
 cases hq:(opM cx o.op).go (gF f) nx h with
 | bad n => exact Goes.bad
 | ok v nx' h' =>
  simp only [rsR]
  have hd:=zx5 (X:=ptOf P c a (rcs++cs0) w0 base) hc.ok M.hr M.len hb.er hq
  obtain ⟨u,H',w',⟨B',hp,hl,hv,hr'⟩,S',st⟩:=hd o.dst o.type o.pos o.after o.guard ops i is todo ds a w ho hw (fun x v h => zf6 a h) M.sep
  exact zdP hs hb ho his hok hk hcs hne hp ⟨hl,hr',S'⟩ hv st
theorem zt5 (hc:CxF P w0 base cx) (hs:Sim P w0 base ih) (hb:FB B s f c a ds) (ho:ops[i]? = some o) (hw:Region.wanted o (yielded ops a)=true) (his:is.map (fun i => ops[i]?)=os.map some) (hok:zid a.size ops.toList=true) (hk:IRL B a.size k todo) (hcs:CsR B cs rcs) (M:Mem G w0 base B nx h H w) (hne:(botP (s.g,s.rd.isSome) cs).2=true→cs0≠[])
  (hop:o.op = .call ⟨cl,xs,ts⟩) :
  Goes G P w0 base B (botP (s.g,s.rd.isSome) cs) cs0 (lone (c.fr a ds (.inRegion ops (i::is)::todo)) (rcs++cs0) w) (zAC cx ih ((zem cx cl xs.toList).go (gF f) h) (.run s f (.reg ops.toList (o::os)::k)) cs nx h):=by
 have hcl:=zmU (ptOf P c a (rcs++cs0) w0 base) (cl:=cl) (xs:=xs) hc M.hr hb.er
 have hnd:zbl o.op=false:=by rw [hop]; rfl
 have hex:execOp (evA a) o=(do let d ← resolve (evA a) ⟨cl,xs,ts⟩ o.type; invoke d.target d.args:Sem Next):=by
  cases o; simp only at hop; subst hop; rfl
 have hfr:FrR B (.run s f (.reg ops.toList (o::os)::k)) (c.fr a ds (.inRegion ops (i::is)::todo)) :=
  ⟨c,a,ds,.inRegion ops (i::is)::todo,hb,⟨.inRegion ops (i::is),todo,Z,⟨Z,by grind⟩,hok,hk⟩,Z⟩
 unfold zAC
 split
 ·rename_i g args hcal
  rw [hcal] at hcl
  obtain ⟨us,hu,hrun⟩:=hcl
  have hrun:(execOp (evA a) o).run P w=(callFunc g us.toArray).run P w:=by rw [hex]; exact hrun (evA a) (fun x v h => zf6 a h) ts o.type w M.sep
  split
  ·rename_i p hpr
   cases hq:p args nx h with
   | bad n => exact Goes.bad
   | ok v nx' h' =>
    simp only [rsR]
    rcases hc.pr G g p hpr _ _ _ _ _ _ B H us hq hu M.len M.hr with hv0 | ⟨hbody,hsc⟩
    ·obtain ⟨u,w',H',r1,r2,B',hp,hl,hv,hr'⟩:=hv0 w M.sep
     rw [r1] at hrun
     refine (Goes.step (zjb ho hw (.inl hnd) hrun) ?_).mono hp
     rw [← zbq ho]
     exact zis hs (hfr.mono hp) (hcs.mono hp) ⟨hl,hr',r2⟩ hne hv
    ·obtain ⟨e,w',fr,⟨u,H',rfl,⟨B',hp,hl,hv,hr'⟩,r2⟩,hcomes,_,hleave⟩:=hsc w M.sep (c.fr a ds (.inRegion ops (i::is)::todo)::(rcs++cs0))
     rw [zcX hbody] at hrun
     refine (Goes.steps (.head (zc8 ho hw (.inl hnd) hrun) (Steps.trans hcomes (.one (step_leave_returned hleave)))) ?_).mono hp
     exact zis hs (hfr.mono hp) (hcs.mono hp) ⟨hl,hr',r2⟩ hne hv
  ·refine zdG (dfd:=false) hc hs hu (cs:=.run s f (.reg ops.toList (o::os)::k)::cs) (rcs:=c.fr a ds (.inRegion ops (i::is)::todo)::rcs) ⟨_,_,Z,hfr,hcs⟩ M hne fun hbody => ?_
   rw [zcX hbody] at hrun
   exact .one (zc8 ho hw (.inl hnd) hrun)
 ·rename_i l args hcal
  rw [hcal] at hcl
  obtain ⟨kb,us,hkb,hu,hrun⟩:=hcl
  have hrun:=hrun (evA a) (fun x v h => zf6 a h) ts o.type w M.sep
  rw [← hex] at hrun
  unfold zxY
  split
  ·rename_i st pend fn lf ps assign body dfs hlo
   split
   ·rename_i hlen
    have hlen:=zar.1 hlen
    rw [zk0]
    refine zke hs hkb hu (cs:=.run s f (.reg ops.toList (o::os)::k)::cs) (rcs:=c.fr a ds (.inRegion ops (i::is)::todo)::rcs) ⟨_,_,Z,hfr,hcs⟩ M hlo hlen hne fun fn tmps assign body hy => ?_
    have hrun:(execOp (evA a) o).run P w=(Instr.yield kb.b us.toArray).run P w:=hrun
    rw [hy] at hrun
    refine .one (step_lone_go ?_)
    rw [zcn ho hw (.inl hnd)]
    simp [stepG.apply,hrun,Ctx.fr]
   ·exact Goes.bad
  ·exact Goes.bad
 ·exact Goes.bad
theorem zvM (hs:Sim P w0 base ih) (hb:FB B s f c a ds) (ho:ops[i]? = some o) (hw:Region.wanted o (yielded ops a)=true) (his:is.map (fun i => ops[i]?)=os.map some) (hok:zid a.size ops.toList=true) (hk:IRL B a.size k todo) (hcs:CsR B cs rcs) (M:Mem G w0 base B nx h H w) (hne:(botP (s.g,s.rd.isSome) cs).2=true→cs0≠[])
  (hop:o.op = .call ⟨.builtin .recover,xs,ts⟩) :
  Goes G P w0 base B (botP (s.g,s.rd.isSome) cs) cs0 (lone (c.fr a ds (.inRegion ops (i::is)::todo)) (rcs++cs0) w) (recA ih o.dst s f (.reg ops.toList os::k) cs nx h):=by
 have hnd:zbl o.op=false:=by rw [hop]; rfl
 have hr:(execOp (evA a) o).run P w = .ok .recover w:=by
  simp_all [execOp,resolve,invoke,builtin]
 unfold recA
 split
 ·rename_i s' f' v old cs hd hrd
  have hround:c.round=none:=by
   have:=hb.rd
   rw [hrd] at this
   cases hcr:c.round with
   | none => rfl
   | some b => rw [hcr] at this; exact this.elim
  have hkind:c.kind = .deferred:=by rw [hb.kind,hd]
  obtain ⟨rf,rcs,rfl,⟨c',a',ds',todo',ch',hb',hch,rfl⟩,hcs'⟩:=hcs
  obtain ⟨u,ch2,rfl,hv,hch2⟩:=hch
  have hcsn:CsR B (.pan s' f' ((v,true)::old)::cs) ({ c'.fr a' ds' todo' with mode:=.panicking ({ v:=u,recovered:=true,goexit:=false }::ch2) }::rcs):=⟨_,_,rfl,⟨c',a',ds',todo',_,hb',⟨u,ch2,rfl,hv,hch2⟩,rfl⟩,hcs'⟩
  refine zdP hs hb ho his hok hk (cs:=.pan s' f' ((v,true)::old)::cs) hcsn hne (zDj _) M hv (.one (step_lone_go ?_))
  rw [zcn ho hw (.inl hnd),← zbq ho]
  simp_all [stepG.apply,Ctx.fr,tryRecover]
 ·rename_i s' f' cs hd hrd
  have hround:c.round=none:=by
   have:=hb.rd
   rw [hrd] at this
   cases hcr:c.round with
   | none => rfl
   | some b => rw [hcr] at this; exact this.elim
  have hkind:c.kind = .deferred:=by rw [hb.kind,hd]
  have hcs0:=hcs
  obtain ⟨rf,rcs,rfl,⟨c',a',ds',todo',hb',rfl⟩,hcs'⟩:=hcs
  refine zdP hs hb ho his hok hk (cs:=.ret s' f'::cs) hcs0 hne (zDj _) M (v:=.nili) (u:=.nilIface) (by grind [VR]) (.one (step_lone_go ?_))
  rw [zcn ho hw (.inl hnd),← zbq ho]
  simp_all [stepG.apply,Ctx.fr,tryRecover]
 ·exact Goes.bad
theorem zv1 (hs:Sim P w0 base ih) (hb:FB B s f c a ds) (ho:ops[i]? = some o) (hw:Region.wanted o (yielded ops a)=true) (hcs:CsR B cs rcs) (M:Mem G w0 base B nx h H w) (hne:(botP (s.g,s.rd.isSome) cs).2=true→cs0≠[])
  (hop:o.op = .panic x) :
  Goes G P w0 base B (botP (s.g,s.rd.isSome) cs) cs0 (lone (c.fr a ds (.inRegion ops (i::is)::todo)) (rcs++cs0) w) (panE ih (evO x (gF f)) s f cs nx h):=by
 have hnd:zbl o.op=false:=by rw [hop]; rfl
 unfold panE
 split
 ·rename_i t v hx
  have hv:=hb.evA (x:=x) (by grind)
  rw [hx] at hv
  have hv0:=hv
  simp only [VR] at hv
  obtain ⟨u,hu,_⟩:=hv
  rw [hu] at hv0
  have hr:(execOp (evA a) o).run P w = .halt (.panic (.iface t u)) w:=by
   simp_all [execOp,Instr.panic]
  refine Goes.step (m':=lone { c.fr a ds (.inRegion ops (i::is)::todo) with mode:=.panicking [{ v:=.iface t u,recovered:=false }] } (rcs++cs0) w) (step_lone_go ?_) ?_
  ·rw [zcn ho hw (.inl hnd)]
   simp [stepG.apply,hr,Frame.raise,Ctx.fr]
  ·exact hs (.pan s f [(.ifc t v,false)]) cs nx h B _ rcs w H ⟨c,a,ds,.inRegion ops (i::is)::todo,_,hb,⟨_,_,Z,hv0,Z⟩,Z⟩ hcs M cs0 hne
 ·exact Goes.bad
end
variable {G:List (Nat×Obj)}
section
variable {P:Program}{w0:World}{base:Nat}{cx:Cx}{ih:Run}{B:BB}{s:SF}{f:Fr}{c:Ctx}{a:Array Value}{ds:List Deferred}{cs:List AF}{rcs:List Frame}{nx:Nat}{h:LH}{H:List Seg}{w:World}{cs0:List Frame}
  {ops:Array Oper}{i:Nat}{is:List Nat}{o:Oper}{os:List Oper}{k:List AI}{todo:List Item}
theorem Mem.defd (M:Mem G w0 base B nx h H w) {k:Bk}{r:Nat}{es:Option (List AD)}(hi:atB h r = .defd es) (hk:B[r]? = some k) :
  ∃ ds',w.heap[k.b]? = some (.deferred ds')∧DOR B es ds'∧∀ es2 ds2,DOR B es2 ds2→∃ H',Mem G w0 base B nx (Tr.set .gone (.defd es2) h r) H' { w with heap:=w.heap.setIfInBounds k.b (.deferred ds2) }:=by
 obtain ⟨j,obj,a1,a2,a3⟩:=M.hr.put (i:=r) (by rw [hi]; rfl) hk
 rw [hi] at a2
 obtain ⟨ds',rfl,a4⟩:=a2
 exact ⟨ds',(M.sep.at_ a1 (j:=0) rfl).1,a4,fun es2 ds2 hd => ⟨H.set j [(k.b,.deferred ds2)],M.len,a3 _ _ ⟨_,rfl,hd⟩,M.sep.setObj a1 (j:=0) rfl _⟩⟩
theorem zw7 (hb:FB B s f c a ds) {args:List LV}(hq:(zem cx (.value x) xs.toList).go (gF f) h = .fn g args) :
  ∃ d,ADR B (.call g args) d∧∀ ts ty w,(resolve (evA a) ⟨.value x,xs,ts⟩ ty).run P w = .ok d w:=by
 have hev:∀ x v,ev (zmB a) x=some v→evA a x=v:=fun x v h => zf6 a h
 have args:∀ {k:List LV→Cl},evC Cl.none k (evL xs.toList (gF f)) = .fn g args→∃ us,evs (zmB a) xs.toList=some us∧VRL B (evL xs.toList (gF f)) us∧k (evL xs.toList (gF f)) = .fn g args:=by
  intro k hk
  unfold evC at hk
  split at hk
  ·rename_i hd
   obtain ⟨us,u1,u2⟩:=zgi hb.er xs.toList (zdR hd)
   grind
  grind
 unfold zem at hq
 split at hq
 ·rename_i g' he
  cases he
  simp only [zaJ] at hq
  obtain ⟨us,u1,u2,u3⟩:=args hq
  cases u3
  refine ⟨⟨.fn (.func g) #[],us.toArray⟩,⟨#[],us.toArray,Z,by grind⟩,fun ts ty w => ?_⟩
  have hg:evA a (.func g) = .func (.func g) #[] #[]:=hev _ _ rfl
  simp [resolve,hg,Deferred.ofValue,zcp hev u1]
 ·rename_i x' hne he
  cases he
  simp only [zaJ] at hq
  obtain ⟨us,u1,u2,u3⟩:=args hq
  unfold clV at u3
  split at u3
  ·rename_i g u c hx
   cases u3
   obtain ⟨vx,x1,x2⟩:=hb.er.ev x (by grind)
   rw [hx] at x2; simp only [VR] at x2
   obtain ⟨ua,ca,rfl,y1,y2⟩:=x2
   refine ⟨⟨.fn (.func g) ca,ua++us.toArray⟩,⟨ca,ua++us.toArray,Z,?_⟩,fun ts ty w => ?_⟩
   ·grind [Array.toList_append,List.append_assoc,VRL.app]
   ·simp [resolve,hev _ _ x1,Deferred.ofValue,zcp hev u1]
  ·cases u3
  grind
 ·grind
 grind
theorem zmy {cs:List Frame}{k:List Item}(ho:ops[i]? = some o) (hw:Region.wanted o (yielded ops a)=true) {cl:Call}(hop:o.op = .defer cl) (hr:c.round=some l) 
  (hrun:(do Instr.deferInRound l (← resolve (evA a) cl o.type); pure .skip:Sem Next).run P w = .ok .skip w') :
  step P (lone (c.fr a ds (.inRegion ops (i::is)::k)) cs w) = .next (lone (c.fr (putA a o.dst undef) ds (.inRegion ops is::k)) cs w'):=by
 refine step_lone_go ?_
 have he:=zio (c:=c) (a:=a) (ds:=ds) (k:=.inRegion ops (i::is)::k)
 rw [← zbq ho]
 simp_all [Ctx.fr,stepG,stepG.exec,stepG.oper,Frame.oper?,zDN,zEg,zEm,stepG.apply,Sem.runT_eq,GStep.bare_after]
theorem zw8 (hs:Sim P w0 base ih) (hb:FB B s f c a ds) (ho:ops[i]? = some o) (hw:Region.wanted o (yielded ops a)=true) (his:is.map (fun i => ops[i]?)=os.map some) (hok:zid a.size ops.toList=true) (hk:IRL B a.size k todo) (hcs:CsR B cs rcs) (M:Mem G w0 base B nx h H w) (hne:(botP (s.g,s.rd.isSome) cs).2=true→cs0≠[])
  (hop:o.op = .defer ⟨.value x,xs,ts⟩) :
  Goes G P w0 base B (botP (s.g,s.rd.isSome) cs) cs0 (lone (c.fr a ds (.inRegion ops (i::is)::todo)) (rcs++cs0) w) (defE ih ((zem cx (.value x) xs.toList).go (gF f) h) o.dst s f (.reg ops.toList os::k) cs nx h):=by
 unfold defE
 split
 ·rename_i g args hcal
  obtain ⟨d,hd,hrun⟩:=zw7 (P:=P) hb hcal
  have hrd:=hb.rd
  split
  ·rename_i hr
   rw [hr] at hrd
   have hcr:c.round=none:=by
    cases hcr:c.round with
    | none => rfl
    | some b => rw [hcr] at hrd; exact hrd.elim
   have hr2:(execOp (evA a) o).run P w = .ok (.defer d) w:=by
    simp_all [execOp]
   have hb2:FB B ⟨s.g,.call g args::s.ds,s.dfd,s.rd⟩ f c a (d::ds):=⟨hb.fn,hb.kind,hb.rd,hb.slots,hb.bound,d,ds,rfl,hd,hb.ds⟩
   exact zdP hs hb2 ho his hok hk hcs hne (zDj _) M zdH (.one (zjc ho hw (.inr hcr) hr2))
  ·rename_i l hr
   rw [hr] at hrd
   cases hcr:c.round with
   | none => rw [hcr] at hrd; exact hrd.elim
   | some b =>
    rw [hcr] at hrd
    obtain ⟨kl,hkl,rfl⟩:=hrd
    unfold defR
    split
    ·rename_i st pend fn lf ps assign body r hlo
     obtain ⟨L,l1,l2,_⟩:=M.loop hlo hkl
     obtain ⟨kr,hkr,ldf⟩:=l2.dfs
     split
     ·rename_i es hes
      obtain ⟨ds',d1,d2,d3⟩:=M.defd hes hkr
      cases ds' with
      | none => exact d2.elim
      | some ds' =>
       obtain ⟨H',M'⟩:=d3 (some (.call g args::es)) (some (d::ds')) ⟨d,ds',rfl,hd,d2⟩
       rw [zb5]
       have hrr:=hrun ts o.type w
       have hgo:(getObj kr.b).run P w = .ok (.deferred (some ds')) w:=by grind [getObj,Sem.run]
       refine zdP hs hb ho his hok hk hcs hne (zDj _) M' zdH (.one (zmy ho hw hop hcr ?_))
       simp only [Sem.run_bind,hrr,Result.andThen_ok,Instr.deferInRound,zbY l1,hgo,ldf,zbP d1 rfl,Sem.run_pure]
     ·exact Goes.bad
    ·exact Goes.bad
 ·exact Goes.bad
end
variable {G:List (Nat×Obj)}
section
variable {P:Program}{w0:World}{base:Nat}{cx:Cx}{ih:Run}{B:BB}{s:SF}{f:Fr}{c:Ctx}{a:Array Value}{ds:List Deferred}{cs:List AF}{rcs:List Frame}{nx:Nat}{h:LH}{H:List Seg}{w:World}{cs0:List Frame}
  {ops:Array Oper}{i:Nat}{is:List Nat}{o:Oper}{os:List Oper}{k:List AI}{todo:List Item}
theorem Mem.new (M:Mem G w0 base B nx h H w) (hor:OR (B++[⟨w.heap.size,0,0,0⟩]) ⟨w.heap.size,0,0,0⟩ obj lo) :
  Mem G w0 base (B++[⟨w.heap.size,0,0,0⟩]) (nx + 1) (Tr.set .gone lo h nx) ([(w.heap.size,obj)]::H) (w.alloc obj) :=
 ⟨by simp [M.len],M.hr.new M.len (k:=⟨w.heap.size,0,0,0⟩) hor,M.sep.alloc obj⟩
theorem zkj {params:Array Tmp}{assign:Code}{gf:FuncId}{u ca:Array Value}{kk:List Item}{cs:List Frame}(hb:Body P gf) (hf:evA a x = .func (.func gf) u ca) {mark:List Deferred} 
  (henter:(Instr.enterLoop c.fn a params assign body c.round).run P w = .ok (l,mark) w') :
  step P (lone (c.fr a ds (.code (.rangeFunc x params assign body)::kk)) cs w) = .next (lone (Frame.enter P gf (u.toList++([Value.func (Fn.yield l) #[] #[]]++ca.toList)).toArray .normal) (c.fr a (mark++ds) (.inRangeFunc l::kk)::cs) w'):=by
 refine step_lone_go ?_
 have hfe:=zio (c:=c) (a:=a) (ds:=mark++ds) (k:=.inRangeFunc l::kk)
 have e1:∀ y:Value,(u++#[y]++ca)=(u.toList++([y]++ca.toList)).toArray:=by
  grind
 simp only [Ctx.fr] at hfe
 have hrun:∀ (y:Value) (w:World),(do let d ← resolve (evA a) { callee:=.value x,args:=#[.const y],argTypes:=#[] } 0; invoke d.target d.args:Sem Next).run P w = .ok (.enter gf (u++#[y]++ca)) w:=by
  intro y w
  have hcy:evA a (.const y)=y:=rfl
  grind [resolve,Deferred.ofValue,invoke,zcX]
 simp only [stepG,stepG.exec,Ctx.fr,Sem.runT_eq,henter,GStep.bare_after,hfe]
 simp only [stepG.apply,Sem.runT_eq,zEm,hrun,GStep.bare_after]
 rw [← e1]
 rfl
theorem zqo (hc:CxF P w0 base cx) (hs:Sim P w0 base ih) (hb:FB B s f c a ds) (hk:IRL B a.size k todo) (hcs:CsR B cs rcs) (M:Mem G w0 base B nx h H w) (hne:(botP (s.g,s.rd.isSome) cs).2=true→cs0≠[])
  {ps:Array Tmp}{assign:Code}(hok:okC a.size (.rangeFunc x ps assign body)=true) :
  Goes G P w0 base B (botP (s.g,s.rd.isSome) cs) cs0 (lone (c.fr a ds (.code (.rangeFunc x ps assign body)::todo)) (rcs++cs0) w) (zr9 cx ih (evO x (gF f)) ps.toList assign body s f k cs nx h):=by
 simp only [okC,zC9] at hok
 obtain ⟨⟨hok1,hok2⟩,hok3⟩:=hok
 unfold zr9
 split
 ·rename_i g u ca hx
  have hv:=hb.evA (x:=x) (by grind)
  rw [hx] at hv
  simp only [VR] at hv
  obtain ⟨ua,cca,hva,y1,y2⟩:=hv
  have hrd:=hb.rd
  split
  ·rename_i hr
   rw [hr] at hrd
   have hcr:c.round=none:=by
    cases hcr:c.round with
    | none => rfl
    | some b => rw [hcr] at hrd; exact hrd.elim
   unfold zxZ
   split
   ·rw [zb5,zaV,zb5,zaV]
    have M1:=M.new (obj:=.deferred (some [])) (lo:=.defd (some [])) ⟨some [],rfl,rfl⟩
    have hsz:(w.alloc (.deferred (some []))).heap.size=w.heap.size + 1:=by simp
    have hp1:B <+: B++[⟨w.heap.size,0,0,0⟩]:=zDR _ _
    have hp2:B++[⟨w.heap.size,0,0,0⟩] <+: (B++[⟨w.heap.size,0,0,0⟩])++[(⟨(w.alloc (.deferred (some []))).heap.size,0,0,0⟩:Bk)]:=zDR _ _
    have hp:=hp1.trans hp2
    have M2:=M1.new (obj:=.loop ⟨.ready,none,c.fn,a,ps,assign,body,w.heap.size⟩) (lo:=.loop .ready none s.g f ps.toList assign body nx)
     ⟨_,Z,hok2,hok3,hok1,(fun _ h => by cases h),Z,Z,hb.fn,hb.slots.mono hp,Z,Z,Z,⟨_,zb8 hp2 (zdQ M.len),Z⟩,hb.bound⟩
    rw [hsz] at M2 hp2 hp
    have hyl:VR ((B++[⟨w.heap.size,0,0,0⟩])++[(⟨w.heap.size + 1,0,0,0⟩:Bk)]) (.yield (nx + 1)) (.func (.yield (w.heap.size + 1)) #[] #[]):=by
     simp only [VR]
     exact ⟨_,zdQ M1.len,Z⟩
    have hu:=VRL.app (VRL.mono hp _ _ y1) (zaB hyl (VRL.mono hp _ _ y2))
    have henter:(Instr.enterLoop c.fn a ps assign body c.round).run P w = .ok (w.heap.size + 1,[{ target:=.collected w.heap.size,args:=#[] }]) ((w.alloc (.deferred (some []))).alloc (.loop ⟨.ready,none,c.fn,a,ps,assign,body,w.heap.size⟩)):=by
     rw [hcr]
     unfold Instr.enterLoop
     simp only [Sem.run_bind,run_newObj,Result.andThen_ok,Sem.run_pure]
     show Result.ok ((w.heap.push _).size,_) _=_
     rw [Array.size_push]
     rfl
    refine Goes.mono hp ?_
    refine zdG (dfd:=false) hc hs hu (cs:=.run ⟨s.g,.coll nx::s.ds,s.dfd,s.rd⟩ f (.rng (nx + 1)::k)::cs) (rcs:=c.fr a ({ target:=.collected w.heap.size,args:=#[] }::ds) (.inRangeFunc (w.heap.size + 1)::todo)::rcs) ⟨_,_,Z,?_,hcs.mono hp⟩ M2 hne fun hbody => .one (zkj hbody hva henter)
    have hb2:=hb.mono hp
    exact ⟨c,a,_,_,⟨hb2.fn,hb2.kind,hb2.rd,hb2.slots,hb2.bound,_,_,Z,⟨_,zb8 hp2 (zdQ M.len),Z⟩,hb2.ds⟩,⟨.inRangeFunc (w.heap.size + 1),todo,Z,⟨_,zdQ M1.len,Z⟩,Z,hk.mono hp⟩,Z⟩
   ·exact Goes.bad
  ·rename_i l hr
   rw [hr] at hrd
   cases hcr:c.round with
   | none => rw [hcr] at hrd; exact hrd.elim
   | some b =>
    rw [hcr] at hrd
    obtain ⟨kl,hkl,rfl⟩:=hrd
    unfold zx0
    split
    ·rename_i st pend fn lf ps2 assign2 body2 r hlo _
     obtain ⟨L,l1,l2,_⟩:=M.loop hlo hkl
     obtain ⟨kr,hkr,ldf⟩:=l2.dfs
     rw [zb5,zaV]
     have hp:B <+: B++[(⟨w.heap.size,0,0,0⟩:Bk)]:=zDR _ _
     have M2:=M.new (obj:=.loop ⟨.ready,none,c.fn,a,ps,assign,body,kr.b⟩) (lo:=.loop .ready none s.g f ps.toList assign body r)
      ⟨_,Z,hok2,hok3,hok1,(fun _ h => by cases h),Z,Z,hb.fn,hb.slots.mono hp,Z,Z,Z,⟨_,zb8 hp hkr,Z⟩,hb.bound⟩
     have hyl:VR (B++[(⟨w.heap.size,0,0,0⟩:Bk)]) (.yield nx) (.func (.yield w.heap.size) #[] #[]):=by
      simp only [VR]
      exact ⟨_,zdQ M.len,Z⟩
     have hu:=VRL.app (VRL.mono hp _ _ y1) (zaB hyl (VRL.mono hp _ _ y2))
     have henter:(Instr.enterLoop c.fn a ps assign body c.round).run P w = .ok (w.heap.size,[]) (w.alloc (.loop ⟨.ready,none,c.fn,a,ps,assign,body,kr.b⟩)):=by
      simp_all [Instr.enterLoop,Sem.run_bind,zbY,run_newObj,Result.andThen_ok,Sem.run_pure]
     refine Goes.mono hp ?_
     refine zdG (dfd:=false) hc hs hu (cs:=.run s f (.rng nx::k)::cs) (rcs:=c.fr a ds (.inRangeFunc w.heap.size::todo)::rcs) ⟨_,_,Z,?_,hcs.mono hp⟩ M2 hne fun hbody => .one (zkj hbody hva henter)
     exact ⟨c,a,ds,_,hb.mono hp,⟨.inRangeFunc w.heap.size,todo,Z,⟨_,zdQ M.len,Z⟩,Z,hk.mono hp⟩,Z⟩
    ·exact Goes.bad
 ·exact Goes.bad
theorem ztN (hs:Sim P w0 base ih) (hb:FB B s f c a ds) (hk:IRL B a.size k todo) (hcs:CsR B cs rcs) (M:Mem G w0 base B nx h H w) (hne:(botP (s.g,s.rd.isSome) cs).2=true→cs0≠[]) {kl:Bk}(hkl:B[l]? = some kl) :
  Goes G P w0 base B (botP (s.g,s.rd.isSome) cs) cs0 (lone (c.fr a ds (.endRangeFunc kl.b::todo)) (rcs++cs0) w) (endA ih l (atB h l) s f k cs nx h):=by
 unfold endA
 split
 ·exact Goes.bad
 ·rename_i st pend fn lf ps assign body dfs hst hlo
  obtain ⟨L,l1,l2,l3⟩:=M.loop hlo hkl
  rw [zb5]
  obtain ⟨H',M'⟩:=l3 .exhausted pend (fun c hc => l2.okJ c hc)
  have hns:L.state≠.busy:=by rw [l2.state]; omega
  have hend:(Instr.endLoop kl.b).run P w = .ok L.pending { w with heap:=w.heap.setIfInBounds kl.b (.loop { L with state:=.exhausted }) }:=by
   have hnb:(L.state == LoopState.busy)=false:=by grind
   unfold Instr.endLoop
   simp only [Sem.run_bind,zbY l1,Result.andThen_ok,hnb,zDy,zDU,zbP l1 rfl,Sem.run_pure]
  have hL:({ L with state:=.exhausted,pending:=pend }:Loop) = { L with state:=.exhausted }:=by rw [← l2.pend]
  rw [hL] at M'
  refine Goes.step (m':=lone (c.fr a ds ((L.pending.map Item.code).toList++todo)) (rcs++cs0) { w with heap:=w.heap.setIfInBounds kl.b (.loop { L with state:=.exhausted }) }) (step_lone_go ?_) ?_
  ·simp_all [stepG,stepG.exec,Ctx.fr,Sem.runT_eq,GStep.bare_after]
  ·refine Goes.run hs hb ?_ hcs M' hne
   rw [l2.pend]
   cases pend with
   | none => exact hk
   | some j => exact ⟨_,_,rfl,rfl,l2.okJ j rfl _,hk⟩
 ·exact Goes.bad
theorem zxn (hs:Sim P w0 base ih) (hb:FB B s f c a ds) (hk:IRL B a.size k todo) (hcs:CsR B cs rcs) (M:Mem G w0 base B nx h H w) (hne:(botP (s.g,s.rd.isSome) cs).2=true→cs0≠[]) (hr:s.rd=some l) :
  Goes G P w0 base B (botP (s.g,s.rd.isSome) cs) cs0 (lone (c.fr a ds (.beginRound::todo)) (rcs++cs0) w) (begA ih l (atB h l) s f k cs nx h):=by
 have hrd:=hb.rd
 rw [hr] at hrd
 cases hcr:c.round with
 | none => rw [hcr] at hrd; exact hrd.elim
 | some b =>
  rw [hcr] at hrd
  obtain ⟨kl,hkl,rfl⟩:=hrd
  unfold begA
  split
  ·rename_i pend fn lf ps assign body dfs hlo
   obtain ⟨L,l1,l2,l3⟩:=M.loop hlo hkl
   rw [zb5]
   obtain ⟨H',M'⟩:=l3 .busy pend (fun c hc => l2.okJ c hc)
   have hL:({ L with state:=.busy,pending:=pend }:Loop) = { L with state:=.busy }:=by rw [← l2.pend]
   rw [hL] at M'
   have hrun:(Instr.beginRound kl.b).run P w = .ok () { w with heap:=w.heap.setIfInBounds kl.b (.loop { L with state:=.busy }) }:=by
    unfold Instr.beginRound
    simp only [Sem.run_bind,zbY l1,Result.andThen_ok,zbP l1 rfl,l2.state,Sem.run_pure]
   refine Goes.step (m':=lone (c.fr a ds todo) (rcs++cs0) { w with heap:=w.heap.setIfInBounds kl.b (.loop { L with state:=.busy }) }) (step_lone_go ?_) (Goes.run hs hb hk hcs M' hne)
   have hr2:(do (Instr.beginRound kl.b); pure .skip:Sem Next).run P w = .ok .skip { w with heap:=w.heap.setIfInBounds kl.b (.loop { L with state:=.busy }) }:=by
    simp_all
   simp_all [stepG,stepG.exec,Ctx.fr,Option.elim_some,stepG.apply,Sem.runT_eq,zEm,GStep.bare_after,Frame.finish]
  ·exact Goes.bad
theorem zsk (hc:CxF P w0 base cx) (hs:Sim P w0 base ih) (hb:FB B s f c a ds) (ho:ops[i]? = some o) (hw:Region.wanted o (yielded ops a)=true) (his:is.map (fun i => ops[i]?)=os.map some) (hok:zid a.size ops.toList=true) (hk:IRL B a.size k todo) (hcs:CsR B cs rcs) (M:Mem G w0 base B nx h H w) (hne:(botP (s.g,s.rd.isSome) cs).2=true→cs0≠[]) :
  Goes G P w0 base B (botP (s.g,s.rd.isSome) cs) cs0 (lone (c.fr a ds (.inRegion ops (i::is)::todo)) (rcs++cs0) w) ((zxa cx ops.toList o os).go ih s f k cs nx h):=by
 unfold zxa
 split
 ·exact zBC hc hs hb ho hw his hok hk hcs M hne
 ·exact zBW hc hs hb ho hw his hok hk hcs M hne
 ·split
  ·rename_i cl xs ts hop
   exact zt5 hc hs hb ho hw his hok hk hcs M hne hop
  ·exact Goes.bad
 ·rename_i hK
  have hop:∃ xs ts,o.op = .call ⟨.builtin .recover,xs,ts⟩:=by
   unfold opK at hK
   split at hK <;> first | (cases hK; done) | skip
   ·split at hK <;> cases hK
   ·split at hK <;> cases hK
   ·split at hK <;> first | (cases hK; done) | (rename_i heq; exact ⟨_,_,heq⟩)
  obtain ⟨xs,ts,hop⟩:=hop
  exact zvM hs hb ho hw his hok hk hcs M hne hop
 ·rename_i x hK
  have hop:o.op = .panic x:=by
   unfold opK at hK
   split at hK <;> first | (cases hK; done) | (cases hK; assumption) | skip
   ·split at hK <;> cases hK
   ·split at hK <;> cases hK
   ·split at hK <;> cases hK
  exact zv1 hs hb ho hw hcs M hne hop
 ·rename_i cl hK
  have hop:o.op = .defer cl:=by
   unfold opK at hK
   split at hK <;> first | (cases hK; done) | (cases hK; assumption) | skip
   ·split at hK <;> cases hK
   ·split at hK <;> cases hK
   ·split at hK <;> cases hK
  obtain ⟨ce,xs,ts⟩:=cl
  split
  ·rename_i x hx
   have hx:ce = .value x:=hx
   subst hx
   exact zw8 hs hb ho hw his hok hk hcs M hne hop
  ·exact Goes.bad
theorem zsj (hc:CxF P w0 base cx) (hs:Sim P w0 base ih) (hb:FB B s f c a ds) (ho:ops[i]? = some o) (his:is.map (fun i => ops[i]?)=os.map some) (hok:zid a.size ops.toList=true) (hk:IRL B a.size k todo) (hcs:CsR B cs rcs) (M:Mem G w0 base B nx h H w) (hne:(botP (s.g,s.rd.isSome) cs).2=true→cs0≠[]) :
  Goes G P w0 base B (botP (s.g,s.rd.isSome) cs) cs0 (lone (c.fr a ds (.inRegion ops (i::is)::todo)) (rcs++cs0) w) ((zAw cx ops.toList o os).go ih s f k cs nx h):=by
 unfold zAw
 split
 ·grind [zsk,Region.wanted]
 ·rename_i g hg
  simp only [zaJ]
  unfold zBj
  split
  ·rename_i hwt
   exact zsk hc hs hb ho (hb.wanted (by grind)) his hok hk hcs M hne
  ·rename_i hwt
   have:=hb.wanted (o:=o) (ops:=ops) (b:=false) (by grind)
   exact zdP hs hb ho his hok hk hcs hne (zDj _) M zdH (.one (zdF ho this))
  ·exact Goes.bad
end
variable {G:List (Nat×Obj)}
section
variable {P:Program}{w0:World}{base:Nat}{cx:Cx}{ih:Run}{B:BB}{s:SF}{f:Fr}{c:Ctx}{a:Array Value}{ds:List Deferred}{cs:List AF}{rcs:List Frame}{nx:Nat}{h:LH}{H:List Seg}{w:World}{cs0:List Frame}{todo:List Item}
theorem zr2 (hc:CxOk P w0 base cx) (hr:HR G B h H) (hb:FB B s f c a ds):∀ (rs:List ResultVar) (vs:List LV),resE cx h f rs=some vs→∃ us,VRL B vs us∧∀ w,Sep w0 base w H →
  (rs.mapM (m:=Sem) fun (r:ResultVar) => match r with
   | .tmp t => (Pure.pure (a.getD t undef):Sem Value)
   | .cell x t => do loadVar t (← asAddr (a.getD x undef))).run P w = .ok us w
 | [],vs,hq => by
  simp only [resE] at hq; cases hq
  exact ⟨[],VRL.nil_,fun w S => Z⟩
 | .tmp t::rs,vs,hq => by
  simp only [resE] at hq
  split at hq
  ·rename_i vs' hv
   cases hq
   obtain ⟨us,h1,h2⟩:=zr2 hc hr hb rs vs' hv
   refine ⟨a.getD t undef::us,zaB (hb.slots t) h1,fun w S => ?_⟩
   rw [zEW]
   simp only [Sem.run_bind,Sem.run_pure,Result.andThen_ok,h2 w S]
  ·cases hq
 | .cell x t::rs,vs,hq => by
  simp only [resE] at hq
  split at hq
  ·rename_i vs' hv
   split at hq
   ·rename_i v hl
    cases hq
    obtain ⟨us,h1,h2⟩:=zr2 hc hr hb rs vs' hv
    obtain ⟨p,u,h3,h4,h5⟩:=zlk (X:=ptOf P c a [] w0 base) hc hr hl (hb.slots x)
    refine ⟨u::us,zaB h4 h1,fun w S => ?_⟩
    have hp:(asAddr (a.getD x undef)).run P w = .ok p w:=by rw [show a.getD x undef = .pointer (some p) from h3]; rfl
    have h6:(loadVar t p).run P w = .ok u w:=h5 w S
    rw [zEW]
    simp only [Sem.run_bind,Sem.run_pure,Result.andThen_ok,h2 w S,hp,h6]
   ·cases hq
  ·cases hq
theorem zze:∀ {vs:List LV}{us:List Value},VRL B vs us→VR B (oneE vs) (zc3 us)
 | [],us,h => by simp only [VRL] at h; subst h; exact zgz
 | [v],us,h => by
  simp only [VRL] at h; obtain ⟨u,m,rfl,h1,rfl⟩:=h
  exact h1
 | v::v'::vs,us,h => by
  have h0:=h
  simp only [VRL] at h; obtain ⟨u,m,rfl,h1,u',m',rfl,h2⟩:=h
  show VR B (.tup (v::v'::vs)) (.tuple (u::u'::m').toArray)
  simp only [VR]
  grind
theorem zqk (hc:CxOk P w0 base cx) (M:Mem G w0 base B nx h H w) (hb:FB B s f c a ds) {fn:Func}{vs:List LV}(hq:resE cx h f fn.results.toList=some vs):∃ u,VR B (oneE vs) u∧(results fn a).run P w = .ok u w:=by
 obtain ⟨us,h1,h2⟩:=zr2 hc M.hr hb _ _ hq
 refine ⟨zc3 us,zze h1,?_⟩
 have:=h2 w M.sep
 unfold results
 rw [zES]
 simp only [Sem.run_bind,zF3,Sem.run_pure] at this ⊢
 refine Eq.trans ?_ (zDh (fun r => Result.ok r w) (show (if h:us.toArray.size=1 then us.toArray[0] else .tuple us.toArray)=zc3 us from ?_))
 ·exact (zDh (fun r => Result.andThen r _) (zDh (fun r => Result.andThen r _) this)).trans (by simp_all)
 ·match us with
  | [] => rfl
  | [v] => rfl
  | v::u::vs => rfl
theorem ADL.app:∀ {l:List AD}{m:List Deferred}{l' : List AD}{m' : List Deferred},ADL B l m→ADL B l' m'→ADL B (l++l') (m++m')
 | [],m,l',m',h,h' => by grind [ADL]
 | a::l,m,l',m',h,h' => by obtain ⟨b,m1,rfl,h1,h2⟩:=h; exact ⟨b,m1++m',rfl,h1,ADL.app h2 h'⟩
theorem CHR.drop:∀ {l:List (LV×Bool)}{m:List PanicEntry},CHR B l m→m.dropWhile (!·.goexit)=[]
 | [],m,h => by simp only [CHR] at h; subst h; rfl
 | p::l,m,h => by
  obtain ⟨u,m1,rfl,h1,h2⟩:=h
  rw [List.dropWhile_cons_of_pos (by rfl)]
  exact CHR.drop h2
theorem zl5 (hc:CxF P w0 base cx) (hs:Sim P w0 base ih) (hb:FB B s f c a ds) (hcs:CsR B cs rcs) (M:Mem G w0 base B nx h H w) (hne:(botP (s.g,s.rd.isSome) cs).2=true→cs0≠[]) {m:FrameMode}(hm:(match m with | .run => false | _ => true)=true) {mk:SF→AF}
  (hmk:∀ B' s' ds',B <+: B'→FB B' s' f c a ds'→FrR B' (mk s') { c.fr a ds' todo with mode:=m }) (hpair:∀ s',zeF (mk s')=(s'.g,s'.rd.isSome)) {d:AD}{ads:List AD}(hds:s.ds=d::ads) :
  Goes G P w0 base B (botP (s.g,s.rd.isSome) cs) cs0 (lone { c.fr a ds todo with mode:=m } (rcs++cs0) w) (retD cx ih s mk d ads cs nx h):=by
 have hd:=hb.ds
 rw [hds] at hd
 obtain ⟨d',ds',rfl,hd1,hd2⟩:=hd
 unfold retD
 split
 ·rename_i r
  obtain ⟨kr,hkr,rfl⟩:=hd1
  unfold zBp
  split
  ·rename_i es hes
   rw [zb5]
   obtain ⟨ds0,d1,d2,d3⟩:=M.defd hes hkr
   cases ds0 with
   | none => exact d2.elim
   | some ds0 =>
    obtain ⟨H',M'⟩:=d3 none none trivial
    have hrun:(Instr.takeDeferred kr.b).run P w = .ok ds0 { w with heap:=w.heap.setIfInBounds kr.b (.deferred none) }:=by
     unfold Instr.takeDeferred
     have h1:(getObj kr.b).run P w = .ok (.deferred (some ds0)) w:=by grind [getObj,Sem.run]
     simp only [Sem.run_bind,h1,Result.andThen_ok,zbP d1 rfl,Sem.run_pure]
    have happ:ADL B (es++ads) (ds0++ds'):=ADL.app d2 hd2
    have hb2:FB B ⟨s.g,es++ads,s.dfd,s.rd⟩ f c a (ds0++ds'):=⟨hb.fn,hb.kind,hb.rd,hb.slots,hb.bound,happ⟩
    refine Goes.step (m':=lone { c.fr a (ds0++ds') todo with mode:=m } (rcs++cs0) { w with heap:=w.heap.setIfInBounds kr.b (.deferred none) }) (step_lone_go ?_) ?_
    ·cases m with
     | run => cases hm
     | returning => simp_all [stepG,unwind,Ctx.fr,Sem.runT_eq,GStep.bare_after]
     | panicking ch => simp_all [stepG,unwind,Ctx.fr,Sem.runT_eq,GStep.bare_after]
    ·have hp:=hpair ⟨s.g,es++ads,s.dfd,s.rd⟩
     have:=hs (mk ⟨s.g,es++ads,s.dfd,s.rd⟩) cs nx _ B _ rcs _ H' (hmk B _ _ (zDj _) hb2) hcs M' cs0 (by grind)
     grind
  ·exact Goes.bad
 ·rename_i g args
  obtain ⟨cap,zs,rfl,hu⟩:=hd1
  have hb2:FB B ⟨s.g,ads,s.dfd,s.rd⟩ f c a ds':=⟨hb.fn,hb.kind,hb.rd,hb.slots,hb.bound,hd2⟩
  have hp:=hpair ⟨s.g,ads,s.dfd,s.rd⟩
  have hbot:botP (g,false) (mk ⟨s.g,ads,s.dfd,s.rd⟩::cs)=botP (s.g,s.rd.isSome) cs:=by
   grind [botP,zeF]
  rw [← hbot] at hne ⊢
  refine zdG (dfd:=true) hc hs hu (cs:=mk ⟨s.g,ads,s.dfd,s.rd⟩::cs) (rcs:={ c.fr a ds' todo with mode:=m }::rcs) ⟨_,_,Z,hmk B _ _ (zDj _) hb2,hcs⟩ M hne fun hbody => .one (step_lone_go ?_)
  have e:zs++cap=(zs.toList++cap.toList).toArray:=by
   grind
  have hinv:(invoke (.fn (.func g) cap) zs).run P w = .ok (.enter g (zs++cap)) w:=by grind [invoke,zcX]
  rw [← e]
  cases m with
  | run => cases hm
  | returning =>
   simp only [stepG,unwind,Ctx.fr,callDeferred,zFc,zDy,zDU,Sem.runT_eq,hinv,GStep.bare_after]
   rfl
  | panicking ch =>
   simp only [stepG,unwind,Ctx.fr,callDeferred,zEX,zDy,zDU,Sem.runT_eq,hinv,GStep.bare_after]
   rfl
theorem zvI (hc:CxF P w0 base cx) (hs:Sim P w0 base ih) (hb:FB B s f c a ds) (hcs:CsR B cs rcs) (M:Mem G w0 base B nx h H w) (hne:(botP (s.g,s.rd.isSome) cs).2=true→cs0≠[]) :
  Goes G P w0 base B (botP (s.g,s.rd.isSome) cs) cs0 (lone { c.fr a ds todo with mode:=.returning } (rcs++cs0) w) (retA cx ih s f cs nx h):=by
 unfold retA
 split
 ·rename_i d ads hds
  exact zl5 hc hs hb hcs M hne (m:=.returning) Z (mk:=fun s => .ret s f) (fun B' s' ds' hp hb' => ⟨c,a,ds',todo,hb',Z⟩) (fun _ => Z) hds
 ·rename_i hds
  have hd:=hb.ds
  rw [hds] at hd
  have hd:ds=[]:=hd
  subst hd
  unfold retE
  split
  ·rename_i fn hf
   obtain ⟨hf,_⟩:=hc.fn _ _ hf
   rw [← hb.fn] at hf
   split
   ·rename_i vs hvs
    obtain ⟨u,hu,hrun⟩:=zqk hc.ok M hb hvs
    unfold zCC
    split
    ·split
     ·rename_i hdf
      simp only [CsR] at hcs
      subst hcs
      have hleave:Frame.leaving P { c.fr a [] todo with mode:=.returning } w (.returned u):=⟨rfl,rfl,by show c.kind=_; rw [hb.kind,hdf],fn,hf,hrun⟩
      intro v' nx' h' e
      cases e
      cases hrd:s.rd with
      | none => exact ⟨_,.refl P _,u,B,H,w,zDj _,M.len,hu,M.hr,M.sep,_,rfl,hb.fn,hleave⟩
      | some l =>
       have hne:=hne (by rw [hrd]; rfl)
       cases cs0 with
       | nil => grind
       | cons c0 cs1 => exact ⟨_,.one (step_leave_returned hleave),u,B,H,w,zDj _,M.len,hu,M.hr,M.sep,c0,cs1,rfl,rfl⟩
     ·exact Goes.bad
    ·rename_i c' cs'
     obtain ⟨b,rcs,rfl,hfr,hcs⟩:=hcs
     split
     ·rename_i hdf
      have hleave:Frame.leaving P { c.fr a [] todo with mode:=.returning } w (.returned u):=⟨rfl,rfl,by show c.kind=_; rw [hb.kind,hdf],fn,hf,hrun⟩
      exact Goes.step (step_leave_returned hleave) (zis hs hfr hcs M hne hu)
     ·rename_i hdf
      have hkind:c.kind = .deferred:=by rw [hb.kind,hdf]
      have main:∀ b',FrR B (zm2 c') b'→zeF (zm2 c')=zeF c'→step P (lone { c.fr a [] todo with mode:=.returning } (b::(rcs++cs0)) w) = .next (lone b' (rcs++cs0) w)→Goes G P w0 base B (botP (zeF c') cs') cs0 (lone { c.fr a [] todo with mode:=.returning } (b::(rcs++cs0)) w) (ih (zm2 c') cs' nx h):=by
       intro b' h1 h2 h3
       have:=hs (zm2 c') cs' nx h B b' rcs w H h1 hcs M cs0 (by rw [h2]; exact hne)
       grind [Goes.step]
      have st:∀ b',(match b.mode with | .panicking ({ recovered:=true,.. }::older) => (match older.dropWhile (!·.goexit) with | [] => { b with mode:=.returning } | rest => { b with mode:=.panicking rest }) | _ => b)=b'→step P (lone { c.fr a [] todo with mode:=.returning } (b::(rcs++cs0)) w) = .next (lone b' (rcs++cs0) w):=by
       rintro b' rfl
       refine step_lone_go ?_
       simp only [Ctx.fr,stepG,unwind,hf,doReturn,hkind]
       simp only [Sem.runT_eq,hrun,GStep.bare_after]
       rfl
      cases c' with
      | run s' f' k' =>
       obtain ⟨c1,a1,ds1,todo1,hb1,hk1,rfl⟩:=hfr
       exact main _ ⟨c1,a1,ds1,todo1,hb1,hk1,Z⟩ Z (st _ Z)
      | ret s' f' =>
       obtain ⟨c1,a1,ds1,todo1,hb1,rfl⟩:=hfr
       exact main _ ⟨c1,a1,ds1,todo1,hb1,Z⟩ Z (st _ Z)
      | pan s' f' ch =>
       obtain ⟨c1,a1,ds1,todo1,ch1,hb1,hch,rfl⟩:=hfr
       cases ch with
       | nil =>
        simp only [CHR] at hch
        subst hch
        exact main _ ⟨c1,a1,ds1,todo1,[],hb1,Z,Z⟩ Z (st _ Z)
       | cons p ch =>
        obtain ⟨v,r⟩:=p
        obtain ⟨u1,m1,rfl,g1,g2⟩:=hch
        cases r with
        | false => exact main _ ⟨c1,a1,ds1,todo1,_,hb1,⟨u1,m1,rfl,g1,g2⟩,rfl⟩ rfl (st _ rfl)
        | true =>
         have hdrop:m1.dropWhile (!·.goexit)=[]:=g2.drop
         exact main { c1.fr a1 ds1 todo1 with mode:=.returning } ⟨c1,a1,ds1,todo1,hb1,rfl⟩ rfl (st _ (by grind))
   ·exact Goes.bad
  ·exact Goes.bad
theorem zk9 (hc:CxF P w0 base cx) (hs:Sim P w0 base ih) (hb:FB B s f c a ds) (hcs:CsR B cs rcs) (M:Mem G w0 base B nx h H w) (hne:(botP (s.g,s.rd.isSome) cs).2=true→cs0≠[]) {ch:List (LV×Bool)}{ch' : List PanicEntry}(hch:CHR B ch ch') :
  Goes G P w0 base B (botP (s.g,s.rd.isSome) cs) cs0 (lone { c.fr a ds todo with mode:=.panicking ch' } (rcs++cs0) w) (panA cx ih s f ch cs nx h):=by
 unfold panA
 split
 ·rename_i d ads hds
  exact zl5 hc hs hb hcs M hne (m:=.panicking ch') rfl (mk:=fun s => .pan s f ch) (fun B' s' ds' hp hb' => ⟨c,a,ds',todo,ch',hb',by
   have:∀ {l:List (LV×Bool)}{m:List PanicEntry},CHR B l m→CHR B' l m:=fun h => h.mono hp
   grind,rfl⟩) (fun _ => rfl) hds
 ·rename_i hds
  have hd:=hb.ds
  rw [hds] at hd
  have hd:ds=[]:=hd
  subst hd
  split
  ·rename_i fn c' cs' hf
   obtain ⟨hf,_⟩:=hc.fn _ _ hf
   rw [← hb.fn] at hf
   obtain ⟨b,rcs,rfl,hfr,hcs⟩:=hcs
   have hst:step P (lone { c.fr a [] todo with mode:=.panicking ch' } (b::(rcs++cs0)) w) = .next (lone (b.raise ch') (rcs++cs0) w) :=
    step_leave_panicked ⟨rfl,rfl,fn,hf⟩
   have hraise:FrR B (zoV c' ch) (b.raise ch')∧zeF (zoV c' ch)=zeF c':=by
    cases c' with
    | run s' f' k' =>
     obtain ⟨c1,a1,ds1,todo1,hb1,hk1,rfl⟩:=hfr
     exact ⟨⟨c1,a1,ds1,todo1,ch',hb1,hch,rfl⟩,rfl⟩
    | ret s' f' =>
     obtain ⟨c1,a1,ds1,todo1,hb1,rfl⟩:=hfr
     exact ⟨⟨c1,a1,ds1,todo1,ch',hb1,hch,rfl⟩,rfl⟩
    | pan s' f' ch0 =>
     obtain ⟨c1,a1,ds1,todo1,ch1,hb1,hch1,rfl⟩:=hfr
     exact ⟨⟨c1,a1,ds1,todo1,ch'++ch1,hb1,hch.app hch1,rfl⟩,rfl⟩
   have:=hs (zoV c' ch) cs' nx h B _ rcs w H hraise.1 hcs M cs0 (by rw [hraise.2]; exact hne)
   rw [hraise.2] at this
   exact Goes.step hst this
  ·exact Goes.bad
end
variable {G:List (Nat×Obj)}
def zm6 (P:Program) (w0:World) (base:Nat) (cx:Cx) (ih:Run):Prop :=
 ∀ {G:List (Nat×Obj)}{B:BB}{s:SF}{f:Fr}{c:Ctx}{a:Array Value}{ds:List Deferred}{cs:List AF}{rcs:List Frame}{nx:Nat}{h:LH}{H:List Seg}{w:World}{cs0:List Frame}{ops:Array Oper}{k:List AI}{todo:List Item}{id:Nat},
  FB B s f c a ds→okC a.size (.region id ops true)=true→zfx ops.toList=true→zfc ops.toList=true→IRL B a.size k todo→CsR B cs rcs→Mem G w0 base B nx h H w→((botP (s.g,s.rd.isSome) cs).2=true→cs0≠[]) →
  Goes G P w0 base B (botP (s.g,s.rd.isSome) cs) cs0 (lone (c.fr a ds (.code (.region id ops true)::todo)) (rcs++cs0) w) (zCl cx s.g ops.toList ih f nx h fun f nx h => ih (.run s f k) cs nx h)
section
variable {P:Program}{w0:World}{base:Nat}{cx:Cx}{ih:Run}{B:BB}{s:SF}{f:Fr}{c:Ctx}{a:Array Value}{ds:List Deferred}{cs:List AF}{rcs:List Frame}{nx:Nat}{h:LH}{H:List Seg}{w:World}{cs0:List Frame}{k:List AI}{todo:List Item}
theorem ztZ (hc:CxF P w0 base cx) (hs:Sim P w0 base ih) (hd:zm6 P w0 base cx ih) (hb:FB B s f c a ds) (hk:IRL B a.size k todo) (hcs:CsR B cs rcs) (M:Mem G w0 base B nx h H w) (hne:(botP (s.g,s.rd.isSome) cs).2=true→cs0≠[]) {cd:Code}(hok:okC a.size cd=true) :
  Goes G P w0 base B (botP (s.g,s.rd.isSome) cs) cs0 (lone (c.fr a ds (.code cd::todo)) (rcs++cs0) w) ((zxb cx cd).go ih s f k cs nx h):=by
 cases cd with
 | skip => exact Goes.step ztd (Goes.run hs hb hk hcs M hne)
 | label l => exact Goes.step zpo (Goes.run hs hb hk hcs M hne)
 | ret => exact zho hs hb hcs M hne (.ret todo)
 | exit id =>
  refine zri (k':=znZ id k) hs hb hcs M hne ?_
  have:=ztx (id:=id) hk
  cases hq:znZ id k with
  | some k' =>
   grind [ztg]
  | none =>
   rw [hq] at this
   exact .exit this
 | goto l =>
  refine zri (k':=znU l k) hs hb hcs M hne ?_
  have:=ztb (l:=l) hk
  cases hq:znU l k with
  | some k' =>
   grind [ztf]
  | none =>
   rw [hq] at this
   exact .goto this
 | seq x y =>
  simp only [okC,zC9] at hok
  exact Goes.step zyg (Goes.run hs hb (k:=.code x::.code y::k) (todo:=.code x::.code y::todo) ⟨_,_,Z,Z,hok.1,_,_,Z,Z,hok.2,hk⟩ hcs M hne)
 | cond o x y =>
  simp only [okC,zC9] at hok
  simp only [zxb,zaJ]
  unfold zCs
  split
  ·rename_i hv
   have:=hb.evA (x:=o) (by grind)
   rw [hv] at this; simp only [VR] at this
   exact Goes.step (zfA this) (Goes.run hs hb (k:=.code x::k) (todo:=.code x::todo) ⟨_,_,Z,Z,hok.1,hk⟩ hcs M hne)
  ·rename_i hv
   have:=hb.evA (x:=o) (by grind)
   rw [hv] at this; simp only [VR] at this
   exact Goes.step (zfA this) (Goes.run hs hb (k:=.code y::k) (todo:=.code y::todo) ⟨_,_,Z,Z,hok.2,hk⟩ hcs M hne)
  ·exact Goes.bad
 | block i b => exact Goes.step zpp (Goes.run hs hb (k:=.code b::.blk i::k) (todo:=.code b::.inBlock i::todo) ⟨_,_,rfl,rfl,hok,_,_,rfl,rfl,rfl,hk⟩ hcs M hne)
 | loop b => exact Goes.step znV (Goes.run hs hb (k:=.code b::.lp b::k) (todo:=.code b::.inLoop b::todo) ⟨_,_,rfl,rfl,hok,_,_,rfl,rfl,hok,hk⟩ hcs M hne)
 | scope b => exact Goes.step zpn (Goes.run hs hb (k:=.code b::.scp b::k) (todo:=.code b::.inScope b::todo) ⟨_,_,rfl,rfl,hok,_,_,rfl,rfl,hok,hk⟩ hcs M hne)
 | region id ops d =>
  cases d with
  | false =>
   refine Goes.step zmx (Goes.run hs hb (k:=.reg ops.toList ops.toList::k) (todo:=.inRegion ops (List.range ops.size)::todo) ⟨_,_,Z,⟨Z,?_⟩,hok,hk⟩ hcs M hne)
   apply zFf
   ·simp
   grind
  | true =>
   simp only [zxb]
   split
   ·rename_i h1
    rw [zC9] at h1
    simp only [zaJ]
    exact hd hb hok h1.1 h1.2 hk hcs M hne
   ·exact Goes.bad
 | rangeFunc x ps assign body => exact zqo hc hs hb hk hcs M hne hok
 | refuse m => exact Goes.bad
theorem zs0 (hc:CxF P w0 base cx) (hs:Sim P w0 base ih) (hd:zm6 P w0 base cx ih) (hb:FB B s f c a ds) {i:AI}(hk:IRL B a.size (i::k) todo) (hcs:CsR B cs rcs) (M:Mem G w0 base B nx h H w) (hne:(botP (s.g,s.rd.isSome) cs).2=true→cs0≠[]) :
  Goes G P w0 base B (botP (s.g,s.rd.isSome) cs) cs0 (lone (c.fr a ds todo) (rcs++cs0) w) ((zAx cx i).go ih s f k cs nx h):=by
 obtain ⟨b,m,rfl,h1,h2,h3⟩:=hk
 cases i with
 | code cd =>
  cases b <;> try exact h1.elim
  have h1:=h1
  simp only [IR] at h1
  subst h1
  exact ztZ hc hs hd hb h3 hcs M hne h2
 | blk j =>
  cases b <;> try exact h1.elim
  exact Goes.step zkt (Goes.run hs hb h3 hcs M hne)
 | scp j =>
  cases b <;> try exact h1.elim
  exact Goes.step zks (Goes.run hs hb h3 hcs M hne)
 | lp b' =>
  cases b <;> try exact h1.elim
  simp only [IR] at h1
  subst h1
  exact Goes.step zjd (Goes.run hs hb (k:=.code b'::.lp b'::k) (todo:=.code b'::.inLoop b'::m) ⟨_,_,rfl,rfl,h2,_,_,rfl,rfl,h2,h3⟩ hcs M hne)
 | reg all rest =>
  cases b <;> try exact h1.elim
  rename_i ops is
  obtain ⟨e1,e2⟩:=h1
  subst e1
  cases rest with
  | nil =>
   have:is=[]:=by simp_all
   subst this
   exact Goes.step zbI (Goes.run hs hb h3 hcs M hne)
  | cons o os =>
   cases is with
   | nil => grind
   | cons i is =>
    simp only [zDo,zD2] at e2
    exact zsj hc hs hb e2.1 e2.2 h2 h3 hcs M hne
 | rng l => exact Goes.bad
 | endr l =>
  cases b <;> try exact h1.elim
  obtain ⟨kl,hkl,rfl⟩:=h1
  exact ztN hs hb h3 hcs M hne hkl
 | beg =>
  cases b <;> try exact h1.elim
  grind [zAx,zaJ,zxn,Goes.bad]
theorem zvB (hc:CxF P w0 base cx) (hs:Sim P w0 base ih) (hd:zm6 P w0 base cx ih):Sim P w0 base (zBs cx ih):=by
 intro G fr cs nx h B rf rcs w H hfr hcs M cs0 hne
 cases fr with
 | run s f k =>
  obtain ⟨c,a,ds,todo,hb,hk,rfl⟩:=hfr
  show Goes G P w0 base B (botP (s.g,s.rd.isSome) cs) cs0 (lone (c.fr a ds todo) (rcs++cs0) w) (runK cx ih s f k cs nx h)
  cases k with
  | nil =>
   simp only [IRL] at hk
   subst hk
   exact zho hs hb hcs M hne .end_
  | cons i k => exact zs0 hc hs hd hb hk hcs M hne
 | ret s f =>
  obtain ⟨c,a,ds,todo,hb,rfl⟩:=hfr
  exact zvI hc hs hb hcs M hne
 | pan s f ch =>
  obtain ⟨c,a,ds,todo,ch',hb,hch,rfl⟩:=hfr
  exact zk9 hc hs hb hcs M hne hch
theorem znr (hc:CxF P w0 base cx) (hd:∀ ih,Sim P w0 base ih→zm6 P w0 base cx ih):∀ n,Sim P w0 base (runA cx n)
 | 0 => fun _ _ _ _ _ _ _ _ _ _ _ _ _ _ => Goes.bad
 | n + 1 => zvB hc (znr hc hd n) (hd _ (znr hc hd n))
end
def zlQ (os:List Oper) (E:Env) (g:Option (Nat×Bool)):Prop:=zdg os E g false∨∃ j want p t,g=some (j,want)∧os[j]? = some p∧p.dst=some t∧Env.get E t=some (.tuple #[])
def PureTwo (X:Pt) (os:List Oper) (E0 val:Env) (H:List Seg) (i:Nat) (v:Value):Prop :=
 ∃ o,os[i]? = some o∧zcq X.n o.dst=true∧((zdg os (pre os E0 val i) o.guard true∧Does X (pre os E0 val i) H o.op (Is v H))∨(zlQ os (pre os E0 val i) o.guard∧v=undef))
def PureM (X:Pt) (os:List Oper) (E0 val xv:Env) (H:List Seg):Env→Prop
 | [] => True
 | (i,v)::r => ((xv.any fun p => befB (zco os []) i p.1)=true∨PureTwo X os E0 val H i v)∧PureM X os E0 val xv H r
theorem PureM.get {os:List Oper}{E0 val:Env}(h:PureM X os E0 val xv H pv) {v:Value}(hi:Env.get pv i=some v):(xv.any fun p => befB (zco os []) i p.1)=true∨PureTwo X os E0 val H i v:=by
 induction pv with
 | nil => grind [Env.get]
 | cons p pv ih =>
  obtain ⟨j,u⟩:=p
  simp only [Env.get] at hi
  by_cases e:j=i
  ·subst e
   simp at hi
   subst hi
   exact h.1
  ·rw [zbh e] at hi
   exact ih h.2 hi
inductive PhI (X:Pt) (os:List Oper) (k:List Item) (E0:Env) (ds:List Deferred):Env→Env→List Seg→Prop where
  | fin {pv xv:Env}{H:List Seg}:PureM X os E0 (pv++xv) xv H pv→(os.zipIdx.all fun (_,i) => zaj (pv++xv) i)=true→At X k (finE os 0 (pv++xv) E0) ds H→PhI X os k E0 ds pv xv H
  | act {pv xv:Env}{H:List Seg}(fs:List Nat) (R:Nat→Value→List Seg→Prop) (Q:Nat→Value→List Seg→Env→Prop):PureM X os E0 (pv++xv) xv H pv→fs≠[]→(fs.all fun x => !zaj (pv++xv) x)=true→zxU os (pv++xv) fs=true →
    (∀ e,e ∈ fs→∃ o,os[e]? = some o∧zcq X.n o.dst=true∧zdg os (pre os E0 (pv++xv) e) o.guard true∧Does X (pre os E0 (pv++xv) e) H o.op (R e)∧∀ v H',R e v H'→∃ pv',Q e v H' pv') →
    (∀ e,e ∈ fs→∀ v H' pv',Q e v H' pv'→(pv'.all fun p => !zaj (pv++xv) p.1 && !Nat.beq p.1 e)=true) →
    (∀ e,e ∈ fs→∀ v H' pv',Q e v H' pv'→PhI X os k E0 ds (pv'++pv) ((e,v)::xv) H')→PhI X os k E0 ds pv xv H
section
variable {X:Pt}{k:List Item}{E0:Env}{ds:List Deferred}{ops:Array Oper}
theorem zlP {val:Env}(ha:Agree X.n a (pre ops.toList E0 val i)) (hn:∀ t v,Env.get (pre ops.toList E0 val i) t=some v→t < X.n) (hw:zlQ ops.toList (pre ops.toList E0 val i) o.guard):Region.wanted o (yielded ops a)=false:=by
 rcases hw with hw | ⟨j,want,p,t,hg,hp,hd,ht⟩
 ·grind [zgj]
 ·have hlt:=hn t _ ht
  have hv:=ha.get t _ ht
  rw [← ha.size] at hlt
  simp_all [zDE,zDu,zED,Region.wanted,yielded]
theorem zw2 (hok:zfx ops.toList=true) (hdl:zfc ops.toList=true) (hrd:(ops.toList.all fun o => (zaR ops.toList o).all fun t => Nat.blt t X.n)=true) :
  ∀ (fuel t:Nat) (l:Array Bool) (pv xv:Env) (H:List Seg) (a:Array Value) (w:World),l.size=ops.size→(∀ i o,ops.toList[i]? = some o→Dn l i→∀ j ∈ zcO o,Dn l j) →
   (∀ i o,ops.toList[i]? = some o→Dn l i→zaj (pv++xv) i=true)→(∀ p ∈ xv,Dn l p.1) →
   (ops.size≤fuel + ((List.range ops.size).filter fun i => l.getD i false).length)→PhI X ops.toList k E0 ds pv xv H→AgD X.n ops.toList E0 (pv++xv) (Dn l) a→Sep X.w0 X.base w H →
   Ev X.P (lone (X.c.fr a ds (.inRegion ops (Region.linearise.go .any ops fuel t l [])::k)) X.cs w) X.G:=by
 intro fuel
 induction fuel with
 | zero =>
  intro t l pv xv H a w hs hcl hkn hxv hf hp ha S
  have hall:∀ i o,ops.toList[i]? = some o→Dn l i:=by
   intro i o ho
   have hlt:i < ops.size:=by grind
   have hle:((List.range ops.size).filter fun i => l.getD i false).length≤ops.size:=by
    grind
   have heq:((List.range ops.size).filter fun i => l.getD i false).length=(List.range ops.size).length:=by grind
   have:=zEZ.1 heq i (zD1.2 hlt)
   exact this
  cases hp with
  | act fs R Q hpl hne hun hwt hA hQ1 hQ =>
   cases fs with
   | nil => grind
   | cons e es =>
    grind
  | fin hpl hkn2 hat =>
   simp only [Region.linearise.go,zEh]
   refine .step zbI (hat a w (ha.fin hall (fun i o ho => ?_)) S)
   exact hkn i o ho (hall i o ho)
 | succ fuel ih =>
  intro t l pv xv H a w hs hcl hkn hxv hf hp ha S
  simp only [Region.linearise.go]
  split
  ·rename_i i hi
   rw [linearise_go_acc]
   simp only [zFw,zEh,zDG,zEB]
   have hmem:i ∈ Region.ready .any ops l:=zDd.2 ⟨_,hi⟩
   obtain ⟨o,ho,hnl,hdeps⟩:=ziR hmem
   have hnd:=zsm hnl
   have hoL:ops.toList[i]? = some o:=by grind
   have hlt:i < ops.size:=(zDW.1 ho).1
   have hAg:=ha.pre hok hdl hcl hoL hnd hdeps
   have hprelt:∀ t v,Env.get (pre ops.toList E0 (pv++xv) i) t=some v→t < X.n:=by
    have h1:=zDa.1 hrd o (zDd.2 ⟨i,hoL⟩)
    have key:∀ ts:List Nat,(∀ t ∈ ts,t < X.n)→∀ t v,Env.get (preL ops.toList E0 (pv++xv) i ts) t=some v→t < X.n:=by
     intro ts
     induction ts with
     | nil => grind [preL,Env.get]
     | cons t0 ts ih =>
      intro hts t v hv
      simp only [preL] at hv
      split at hv
      ·simp only [Env.get] at hv
       by_cases e:t0=t
       ·subst e; exact hts t0 kY
       grind [zbh]
      grind
    intro t v hv
    unfold pre at hv
    rw [hoL] at hv
    grind [zdr,List.all_eq_true]
   -- what is the same in each case behind the operation
   have after:∀ (pv' xv' : Env) (H' : List Seg) (v:Value) (w' : World),PhI X ops.toList k E0 ds pv' xv' H'→Sep X.w0 X.base w' H'→zcq X.n o.dst=true→Env.get (pv'++xv') i=some v →
     (∀ j,zaj (pv++xv) j=true→Env.get (pv'++xv') j=Env.get (pv++xv) j)→(∀ p ∈ xv',Dn l p.1∨p.1=i) →
     Ev X.P (lone (X.c.fr (putA a o.dst v) ds (.inRegion ops (Region.linearise.go .any ops fuel (t / (Region.ready .any ops l).length) (l.setIfInBounds i true) [])::k)) X.cs w') X.G:=by
    intro pv' xv' H' v w' hp' S' hd hv hsame hxv'
    have hds:=ztQ (l:=l) (i:=i) kQ
    have hAgD:AgD X.n ops.toList E0 (pv'++xv') (Dn l) a:=by
     refine ⟨ha.size,fun j p t u hDj hp hpd hlast hu => ?_,ha.old⟩
     refine ha.done j p t u hDj hp hpd hlast ?_
     grind
    have hst:=hAgD.step hok hdl hcl hoL hnd hd hv
    refine ih _ _ pv' xv' H' _ w' (by grind) ?_ ?_ ?_ ?_ hp' ?_ S'
    ·grind
    ·intro j p hj hDj
     rw [hds] at hDj
     rcases hDj with hDj | rfl
     ·grind [zaj]
     grind [zaj]
    ·grind
    ·have hcount:((List.range ops.size).filter fun j => (l.setIfInBounds i true).getD j false).length=((List.range ops.size).filter fun j => l.getD j false).length + 1:=by
      have hp:∀ j,(l.setIfInBounds i true).getD j false=(l.getD j false || Nat.beq j i):=by
       intro j
       have:(l.setIfInBounds i true).getD j false=true↔l.getD j false=true∨j=i:=hds j
       rw [zEt,zDw,this]
       constructor
       ·rintro (h | h)
        ·grind
        ·exact .inr (by subst h; simp)
       grind [Nat.eq_of_beq_eq_true]
      have hif:l.getD i false=false:=by
       grind
      have hset:(List.range ops.size).filter (fun j => (l.setIfInBounds i true).getD j false)=(List.range ops.size).filter fun j => ((fun j => l.getD j false) j || Nat.beq j i):=zER fun j _ => hp j
      rw [hset]
      exact zhy _ i hif _ zF7 (zD1.2 hlt)
     omega
    ·refine ⟨hst.size,?_,?_⟩
     ·intro j p t u hDj hp hpd hlast hu
      exact hst.done j p t u ((hds j).1 hDj) hp hpd (fun m hm hDm q hq => hlast m hm ((hds m).2 hDm) q hq) hu
     ·intro t u hno hu
      exact hst.old t u (fun m hDm p hp => hno m ((hds m).2 hDm) p hp) hu
   -- an operation whose value is known in this phase
   have pureCase:∀ v,Env.get pv i=some v→PureM X ops.toList E0 (pv++xv) xv H pv →
     Ev X.P (lone (X.c.fr a ds (.inRegion ops (i::Region.linearise.go .any ops fuel (t / (Region.ready .any ops l).length) (l.setIfInBounds i true) [])::k)) X.cs w) X.G:=by
    intro v hv hpl
    have hone:PureTwo X ops.toList E0 (pv++xv) H i v:=by
     rcases hpl.get hv with h | h
     ·obtain ⟨p,hp1,hp2⟩:=zDP.1 h
      have hDp:=hxv p hp1
      cases hop:ops.toList[p.1]? with
      | none =>
       exfalso
       have hlen:(zco ops.toList []).length=ops.toList.length:=by grind [zi4]
       grind [zco,List.getElem?_eq_none_iff,List.getD,List.getElem?_eq_none,befB]
      | some q => exact absurd (zgb hcl hdl p.1 q hop (hcl p.1 q hop hDp) i hp2) hnd
     omega
    obtain ⟨o',ho',hd,hor⟩:=hone
    rw [hoL] at ho'; cases ho'
    have hget:Env.get (pv++xv) i=some v:=by rw [za1,hv]
    have hcont:=fun (w' : World) (S' : Sep X.w0 X.base w' H) => after pv xv H v w' hp S' hd hget (fun j _ => rfl) (fun p hp => .inl (hxv p hp))
    rcases hor with ⟨hw,hdo⟩ | ⟨hw,rfl⟩
    ·obtain ⟨v',H',w',⟨rfl,rfl⟩,S',hst⟩:=hdo o.dst o.type o.pos o.after o.guard ops i _ k ds a w ho (zdz hAg hprelt hw) (fun x u hx => hAg.ev hx) S
     exact .steps hst (hcont w' S')
    ·exact .step (zdF ho (zlP hAg hprelt hw)) (hcont w S)
   have hp0:=hp
   cases hp with
   | fin hpl hall hat =>
    have hk1:=zDa.1 hall (o,i) (zDd.2 ⟨i,by grind⟩)
    have hk1:zaj (pv++xv) i=true:=hk1
    cases hv:Env.get pv i with
    | some v => exact pureCase v hv hpl
    | none =>
     unfold zaj at hk1
     rw [za1,hv] at hk1
     cases hx:Env.get xv i with
     | none => grind
     | some u => exact absurd (hxv _ (zhu hx)) hnd
   | act fs R Q hpl hne hek hwt hA hQ1 hQ =>
    have hunk:∀ x ∈ fs,Env.get (pv++xv) x=none:=by
     intro x hx
     have:=zDa.1 hek x hx
     unfold zaj at this
     cases hg:Env.get (pv++xv) x with
     | none => rfl
     | some u => grind
    by_cases hie:i ∈ fs
    ·obtain ⟨oe,hoe,hd,hw,hdo,hR⟩:=hA i hie
     rw [hoL] at hoe; cases hoe
     obtain ⟨v,H',w',hRv,S',hst⟩:=hdo o.dst o.type o.pos o.after o.guard ops i (Region.linearise.go .any ops fuel (t / (Region.ready .any ops l).length) (l.setIfInBounds i true) []) k ds a w ho (zdz hAg hprelt hw) (fun x u hx => hAg.ev hx) S
     obtain ⟨pv',hq⟩:=hR v H' hRv
     have hpv':=hQ1 i hie v H' pv' hq
     have hp':=hQ i hie v H' pv' hq
     refine .steps hst ?_
     have hfresh:∀ j u,Env.get pv' j=some u→Env.get (pv++xv) j=none∧j≠i:=by
      intro j u hj
      have hm:∃ p ∈ pv',p.1=j:=by
       clear hp' hpv' hq
       induction pv' with
       | nil => grind [Env.get]
       | cons p pv' ihp =>
        simp only [Env.get] at hj
        by_cases e:p.1=j
        ·grind
        ·rw [zbh e] at hj
         obtain ⟨q,hq,hq2⟩:=ihp hj
         grind
      obtain ⟨p,hp1,rfl⟩:=hm
      have:=zDa.1 hpv' p hp1
      rw [zC9,zDQ,zDQ] at this
      refine ⟨?_,?_⟩
      ·have h1:=this.1
       unfold zaj at h1
       cases hg:Env.get (pv++xv) p.1 with
       | none => rfl
       | some u => grind
      ·intro e
       have h2:=this.2
       rw [e] at h2
       simp at h2
     have hi0:=hunk i hie
     have hpi:Env.get pv i=none:=by
      rw [za1] at hi0
      cases hg:Env.get pv i with
      | none => rfl
      | some u => grind
     have hget:Env.get ((pv'++pv)++((i,v)::xv)) i=some v:=by
      rw [za1,za1]
      cases hg:Env.get pv' i with
      | some u => grind
      | none => simp [hpi,Env.get]
     refine after _ _ H' v w' hp' S' hd hget ?_ ?_
     ·intro j hj
      have hj0:Env.get (pv++xv) j≠none:=by
       grind [zaj]
      have hji:j≠i:=by grind
      rw [za1,za1,za1]
      cases hg:Env.get pv' j with
      | some u => grind
      | none =>
       cases hg2:Env.get pv j with
       | some u => rfl
       | none => simp only [Env.get,zbh (zFb hji)]
     grind
    ·have hk1:=zDa.1 hwt (o,i) (zDd.2 ⟨i,by grind⟩)
     have hk1:(zaj (pv++xv) i || (fs.any fun e => Nat.beq i e) || (zcO o).any fun j => !zaj (pv++xv) j)=true:=hk1
     have hany:((zcO o).any fun j => !zaj (pv++xv) j)=false:=by
      cases hb:((zcO o).any fun j => !zaj (pv++xv) j) with
      | false => rfl
      | true =>
       obtain ⟨j,hj,hjk⟩:=zDP.1 hb
       have hDj:=hdeps j hj
       have hjlt:j < i:=by
        have h1:=zDa.1 hdl (o,i) (zDd.2 ⟨i,by grind⟩)
        exact zdr (zDa.1 h1 j hj)
       grind
     have hfs:(fs.any fun e => Nat.beq i e)=false:=by
      cases hb:(fs.any fun e => Nat.beq i e) with
      | false => rfl
      | true =>
       obtain ⟨e,he,he2⟩:=zDP.1 hb
       grind [absurd,Nat.eq_of_beq_eq_true]
     rw [hfs,hany,zEz,zEz] at hk1
     cases hv:Env.get pv i with
     | some v => exact pureCase v hv hpl
     | none =>
      unfold zaj at hk1
      rw [za1,hv] at hk1
      cases hx:Env.get xv i with
      | none => grind
      | some u => exact absurd (hxv _ (zhu hx)) hnd
  ·rename_i hnone
   have hempty:Region.ready .any ops l=[]:=by
    cases hr:Region.ready .any ops l with
    | nil => rfl
    | cons b r =>
     grind [Region.ready,Nat.mod_lt,absurd,List.getElem?_eq_getElem]
   have hall:=zlA hdl hs hempty
   cases hp with
   | act fs R Q hpl hne hun hwt hA hQ1 hQ =>
    cases fs with
    | nil => grind
    | cons e es =>
     grind
   | fin hpl hkn2 hat =>
    simp only [zEh]
    refine .step zbI (hat a w (ha.fin hall (fun i o ho => ?_)) S)
    exact hkn i o ho (hall i o ho)
theorem zxP {id:Nat}(hm:X.P.follows .mixedOrders=true) (hok:zfx ops.toList=true) (hdl:zfc ops.toList=true) (hrd:(ops.toList.all fun o => (zaR ops.toList o).all fun t => Nat.blt t X.n)=true)
  (hp:PhI X ops.toList k E0 ds pv [] H):At X (.code (.region id ops true)::k) E0 ds H:=by
 intro a w ha S
 refine .step zek ?_
 have hno:∀ i,¬ Dn (Array.replicate ops.size false) i:=by
  intro i hi
  unfold Dn at hi
  rw [zDu,zFq] at hi
  split at hi <;> simp at hi
 unfold Region.schedule Region.linearise
 rw [hm,Bool.true_or,zDi rfl]
 refine zw2 hok hdl hrd ops.size _ _ pv [] H a _ kY ?_ ?_ ?_ (zFC _ _) hp ⟨ha.size,?_,?_⟩ (S.drawn _)
 ·grind
 ·grind
 ·grind
 ·grind
 ·exact fun t v _ h => ha.get t v h
end
theorem zce (kn i j:Nat):zb6 (addK kn i) j=(zb6 kn j || Nat.beq i j):=by
 show (kn ||| 2 ^ i).testBit j=_
 rw [Nat.testBit_or,Nat.testBit_two_pow,zlx]
 rfl
theorem zsW (n i:Nat):zb6 (Nat.pred (Nat.pow 2 n)) i=decide (i < n):=by
 show (Nat.pred (2 ^ n)).testBit i=_
 simp_all
def Le (V V' : Env):Prop:=∀ t v,Env.get V t=some v→Env.get V' t=some v
theorem zuD :Le V V:=fun _ _ h => h
theorem Le.trans {V'':Env}(h:Le V V') (h' : Le V' V''):Le V V'':=fun t v e => h' t v (h t v e)
theorem zdk :zaj V i=true↔∃ v,Env.get V i=some v:=by
 unfold zaj
 cases Env.get V i <;> simp
theorem Le.known (h:Le V V') (hi:zaj V i=true):zaj V' i=true:=by
 obtain ⟨v,hv⟩:=zdk.1 hi
 exact zdk.2 ⟨v,h i v hv⟩
theorem ziZ (h:zaj V i=false):Env.get V i=none:=by
 simp_all [zaj,Env.get]
theorem Le.act {v:Value}(h:zaj (pv++xv) i=false):Le (pv++xv) (pv++((i,v)::xv)):=by
 intro t u hu
 rw [za1] at hu ⊢
 cases hp:Env.get pv t with
 | some w => grind
 | none =>
  rw [hp] at hu
  simp only at hu
  simp only [Env.get]
  by_cases e:i=t
  ·subst e
   have:=ziZ h
   grind [za1]
  grind [zbh]
theorem Le.pure {v:Value}(h:zaj (pv++xv) i=false):Le (pv++xv) ((i,v)::pv++xv):=by
 intro t u hu
 grind [Env.get,ziZ,zbh]
theorem znW {v:Value}(h:zaj (pv++xv) i=false):Env.get (pv++((i,v)::xv)) i=some v:=by
 have:=ziZ h
 rw [za1] at this ⊢
 cases hp:Env.get pv i with
 | some w => grind
 | none => simp [Env.get]
theorem zgR {v:Value}(h:j≠i):Env.get (pv++((i,v)::xv)) j=Env.get (pv++xv) j:=by
 simp_all [za1,Env.get,zbh,zFb]
theorem zgh {v:Value}(h:j≠i):Env.get ((i,v)::pv++xv) j=Env.get (pv++xv) j:=by
 simp_all [Env.get,zbh,zFb]
theorem zps {v:Value}:Env.get ((i,v)::pv++xv) i=some v:=by
 simp_all [Env.get]
theorem zct {v:Value}(h:zaj (pv++xv) i=false):zaj (pv++((i,v)::xv)) j=(zaj (pv++xv) j || Nat.beq i j):=by
 by_cases e:j=i
 ·simp_all [Nat.beq,zdk,znW,Bool.or_true]
 simp_all [zaj,zgR,zbh,zFb,zEz]
theorem zf3 {v:Value}:zaj ((i,v)::pv++xv) j=(zaj (pv++xv) j || Nat.beq i j):=by
 by_cases e:j=i
 ·subst e
  have:Nat.beq j j=true:=by simp
  rw [zdk.2 ⟨v,zps⟩,this,Bool.or_true]
 ·unfold zaj
  rw [zgh e,zbh (zFb e),zEz]
section
variable {os:List Oper}{E0 V V' : Env}
theorem zij {i t:Nat}{v:Value}(hl:look os E0 V i t=some v):∀ {ts:List Nat},t ∈ ts→Env.get (preL os E0 V i ts) t=some v
  | t0::ts,h => by
    rw [preL]
    by_cases e:t0=t
    · subst e
      rw [hl]
      simp [Env.get]
    · have h : t ∈ ts := by rcases zDp.1 h with h | h; · exact absurd h.symm e
                            · exact h
      have ih:=zij hl h
      split
      · simp only [Env.get,zbh e]; exact ih
      · exact ih
theorem zk7 {i t:Nat}{v:Value}:∀ {ts:List Nat},Env.get (preL os E0 V i ts) t=some v→t ∈ ts∧look os E0 V i t=some v
 | [],h => by simp [preL,Env.get] at h
 | t0::ts,h => by
  rw [preL] at h
  split at h
  ·rename_i u hu
   simp only [Env.get] at h
   by_cases e:t0=t
   ·subst e
    simp at h
    subst h
    exact ⟨by simp,hu⟩
   ·rw [zbh e] at h
    have:=zk7 h
    exact ⟨by simp [this.1],this.2⟩
  ·have:=zk7 h
   exact ⟨by simp [this.1],this.2⟩
theorem zzD (h:Le V V') {t:Nat}{v:Value}(hl:look os E0 V i t=some v):look os E0 V' i t=some v:=by
 unfold look at hl ⊢
 split at hl
 ·exact h _ _ hl
 omega
theorem zse (h:Le V V') (i:Nat):Le (pre os E0 V i) (pre os E0 V' i):=by
 intro t v hv
 grind [pre,zk7,zij,zzD]
theorem ev_le (h:Le E E') {v:Value}(hx:ev E x=some v):ev E' x=some v:=by
 cases x with
 | tmp t => exact h t v hx
 | const u => exact hx
 | global g => exact hx
 | func g => exact hx
theorem Does.le (h:Le E E') (hd:Does X E H op R):Does X E' H op R:=by
 intro dst ty pos after g ops i is k ds a w ho hw ha S
 exact hd dst ty pos after g ops i is k ds a w ho hw (fun x v hx => ha x v (ev_le h hx)) S
theorem zlR (h:Le E E') {g:Option (Nat×Bool)}(hw:zdg os E g b):zdg os E' g b:=by
 unfold zdg at hw ⊢
 split at hw
 ·exact hw
 ·obtain ⟨p,t,c,h1,h2,h3,h4⟩:=hw
  exact ⟨p,t,c,h1,h2,h _ _ h3,h4⟩
theorem zra (h:Le E E') {g:Option (Nat×Bool)}(hw:zlQ os E g):zlQ os E' g:=by
 rcases hw with hw | ⟨j,want,p,t,h1,h2,h3,h4⟩
 ·exact .inl (zlR h hw)
 ·exact .inr ⟨j,want,p,t,h1,h2,h3,h _ _ h4⟩
theorem PureTwo.le (h:Le V V') {v:Value}(hp:PureTwo X os E0 V H i v):PureTwo X os E0 V' H i v:=by
 obtain ⟨o,h1,h2,h3⟩:=hp
 refine ⟨o,h1,h2,?_⟩
 rcases h3 with ⟨h3,h4⟩ | ⟨h3,h4⟩
 ·exact .inl ⟨zlR (zse h i) h3,h4.le (zse h i)⟩
 ·exact .inr ⟨zra (zse h i) h3,h4⟩
theorem zk6 {X:Pt}{val xv:Env}{H:List Seg}:∀ {pv:Env},(∀ p ∈ pv,(xv.any fun q => befB (zco os []) p.1 q.1)=true∨PureTwo X os E0 val H p.1 p.2)→PureM X os E0 val xv H pv
 | [],h => trivial
 | p::pv,h => ⟨h p kY,zk6 fun q hq => h q (by grind)⟩
theorem Does.nd (hd:Does X E H op R):Does X E H op fun v H' => R v H'∧(H'.flatten.map (·.1)).Nodup:=by
 intro dst ty pos after g ops i is k ds a w ho hw ha S
 obtain ⟨v,H',w',hR,S',st⟩:=hd dst ty pos after g ops i is k ds a w ho hw ha S
 exact ⟨v,H',w',⟨hR,S'.nodup⟩,S',st⟩
end
section
variable {os:List Oper}{f0 val:Fr}{E0 V:Env}{B:BB}
theorem zil (h0:ER B (gF f0) E0) (hv:ER B (gF val) V) (ho:os[i]? = some o):ER B (zeZ os (gF f0) val i (zaR os o)) (pre os E0 V i):=by
 intro t ht
 unfold zeZ at ht ⊢
 cases hm:memN (zaR os o) t with
 | false => grind
 | true =>
  rw [hm] at ht
  have hmem:t ∈ zaR os o:=by grind [zle]
  unfold pre
  rw [ho]
  cases hw:zhq os i t with
  | some j =>
   rw [hw] at ht
   obtain ⟨v,h1,h2⟩:=hv j ht
   grind [zij,look]
  | none =>
   rw [hw] at ht
   obtain ⟨v,h1,h2⟩:=h0 t ht
   grind [zij,look]
def zBi (os:List Oper) (E:Env) (g:Option (Nat×Bool)):Bool→Prop
 | true => zdg os E g true
 | false => zlQ os E g
theorem zig {f:SlF}(hE:ER B f E) {g:Option (Nat×Bool)}(h:ziA os g f=some b):zBi os E g b:=by
 unfold ziA at h
 split at h
 ·cases h; exact (rfl:true=true)
 ·rename_i j w
  split at h
  ·rename_i t ht
   unfold zAg at ht
   split at ht
   ·rename_i p hp
    unfold asB at h
    split at h
    ·rename_i c hc
     obtain ⟨u,h1,h2⟩:=hE t (by grind)
     rw [hc] at h2; simp only [VR] at h2; subst h2
     have key:∀ b',(c == w)=b'→zdg os E (some (j,w)) b':=fun b' hb => ⟨p,t,c,hp,ht,h1,hb⟩
     cases b with
     | true => exact key true (by cases w <;> cases c <;> (grind))
     | false => exact .inl (key false (by cases w <;> cases c <;> (grind)))
    ·rename_i hc
     cases h
     obtain ⟨u,h1,h2⟩:=hE t (by grind)
     rw [hc] at h2; simp only [VR,VRL] at h2
     obtain ⟨vs,rfl,hvs⟩:=h2
     have:vs = #[]:=by grind
     subst this
     exact .inr ⟨j,w,p,t,rfl,hp,ht,h1⟩
    grind
   grind
  grind
theorem zi6 {kn e:Nat}{v:LV}(hr:zhI os kn (e,o)=true) (hi:zb6 kn i=false):zeZ os (gF f0) (Tr.set .undef v val i) e (zaR os o)=zeZ os (gF f0) val e (zaR os o):=by
 funext t
 unfold zeZ
 cases hm:memN (zaR os o) t with
 | false => rfl
 | true =>
  have hmem:t ∈ zaR os o:=by grind [zle]
  have:=zDa.1 hr t hmem
  cases hw:zhq os e t with
  | none => rfl
  | some j =>
   simp only [hw] at this
   have hj:j≠i:=fun e => by grind
   exact zfB hj
theorem zgm {kn kn' : Nat}(h:∀ j,zb6 kn j=true→zb6 kn' j=true) {p:Nat×Oper}(hr:zhI os kn p=true):zhI os kn' p=true:=by
 refine zDa.2 fun t ht => ?_
 have:=zDa.1 hr t ht
 grind
end
theorem zz9 {a m b:Nat}(h:eqS l a m b=true) {u':Value}(h1:VR B (.str l a) u) (h2:VR B (.str m b) u'):u=u':=by
 unfold eqS at h
 rw [zC9] at h
 have e1:=zar.1 h.1
 have e2:=zar.1 h.2
 simp only [VR] at h1 h2
 obtain ⟨x,rfl,x1,x2⟩:=h1
 obtain ⟨y,rfl,y1,y2⟩:=h2
 grind [zeb]
theorem zfZ {B:BB}{f:LV→LV→Bool}(hf:∀ a b,f a b=true→∀ u u',VR B a u→VR B b u'→u=u'):∀ (l m:List LV),zfh f l m=true→∀ us us',VRL B l us→VRL B m us'→us=us'
 | [],[],_,us,us',h1,h2 => by simp only [VRL] at h1 h2; rw [h1,h2]
 | [],b::m,h,_,_,_,_ => by simp [zfh] at h
 | a::l,[],h,_,_,_,_ => by simp [zfh] at h
 | a::l,b::m,h,us,us',h1,h2 => by
  simp only [zfh] at h
  split at h
  ·rename_i hab
   simp only [VRL] at h1 h2
   obtain ⟨x,xs,rfl,x1,x2⟩:=h1
   obtain ⟨y,ys,rfl,y1,y2⟩:=h2
   rw [hf a b hab x y x1 y1,zfZ hf l m h xs ys x2 y2]
  ·cases h
theorem zl2 {G:List (Nat×Obj)}{B:BB}{h:LH}{H:List Seg}(hr:HR G B h H):∀ (n:Nat) (a b:LV),same h n a b=true→∀ u u',VR B a u→VR B b u'→u=u'
 | 0,a,b,hq => by grind [same]
 | n + 1,a,b,h => by
  intro u u' h1 h2
  have ih:=fun a b h u u' => zl2 hr n a b h u u'
  unfold same at h
  split at h
  ·simp_all [VR,zGs]
  ·grind [VR,zar]
  ·rw [zC9] at h
   rw [zfG] at h
   simp only [VR] at h1 h2; rw [h1,h2,zmr h.1,zDf h.2]
  ·grind [zz9]
  ·grind [VR]
  ·rw [zC9] at h
   have e1:=zar.1 h.1
   have e2:=zar.1 h.2
   subst e1 e2
   simp only [VR] at h1 h2
   grind
  ·simp_all [zC9,VR,zar]
  ·grind [VR]
  ·rw [zC9,zC9,zC9] at h
   obtain ⟨e1,e2,e3,e4⟩:=h
   have e1:=zar.1 e1
   have e2:=zar.1 e2
   have e3:=zar.1 e3
   have e4:=zar.1 e4
   subst e1 e2 e3 e4
   simp only [VR] at h1 h2
   grind
  ·rw [zC9,zC9,zC9] at h
   obtain ⟨hl,e1,e2,e3⟩:=h
   rw [zC9] at e3
   have e1:=zar.1 e1
   have e2:=zar.1 e2
   have e4:=zar.1 e3.2
   have e3:=zar.1 e3.1
   subst e1 e2 e3 e4
   simp only [VR] at h1 h2
   obtain ⟨k,c,A,a1,rfl,a3,a4,a5,a6,a7⟩:=h1
   obtain ⟨k',c',A',b1,rfl,b3,b4,b5,b6,b7⟩:=h2
   rw [a1] at b1; cases b1
   have hsz:0 < k.sz:=by
    rename_i i _ _ _
    unfold zBZ at hl
    split at hl
    ·rename_i hlo
     obtain ⟨k2,_,_,c1,_,c3⟩:=hr.at_ i (by rw [hlo]; rfl)
     rw [a1] at c1; cases c1
     rw [hlo] at c3
     obtain ⟨_,_,_,d1,d2,_⟩:=c3
     omega
    ·rename_i hlo
     obtain ⟨k2,_,_,c1,_,c3⟩:=hr.at_ i (by rw [hlo]; rfl)
     rw [a1] at c1; cases c1
     rw [hlo] at c3
     obtain ⟨_,_,_,_,_,d1,_⟩:=c3
     omega
    grind
   grind [Nat.eq_of_mul_eq_mul_right,Nat.eq_zero_or_pos]
  ·grind [VR]
  ·have e1:=zar.1 h
   subst e1
   simp only [VR] at h1 h2
   grind
  ·rw [zC9,zC9] at h
   obtain ⟨e1,e2,e3⟩:=h
   have e1:=zar.1 e1
   subst e1
   simp only [VR] at h1 h2
   obtain ⟨x,y,rfl,x1,x2⟩:=h1
   obtain ⟨x',y',rfl,y1,y2⟩:=h2
   grind [zfZ,Array.ext']
  ·have e1:=zar.1 h
   subst e1
   simp only [VR] at h1 h2
   grind
  ·grind [VR]
  ·rw [zC9] at h
   have e1:=zar.1 h.1
   subst e1
   simp only [VR] at h1 h2
   grind
  ·grind [VR]
  ·simp only [VR] at h1 h2
   obtain ⟨x,rfl,x1,_⟩:=h1
   obtain ⟨y,rfl,y1,_⟩:=h2
   grind [Array.ext',zfZ]
  ·simp only [VR] at h1 h2
   obtain ⟨x,rfl,x1⟩:=h1
   obtain ⟨y,rfl,y1⟩:=h2
   grind [Array.ext',zfZ]
  grind
variable {G:List (Nat×Obj)}
section
variable {X:Pt}{os:List Oper}{f0 val:Fr}{E0 V E:Env}{B:BB}{h h' : LH}{H:List Seg}{cx:Cx}{f:SlF}{nx nx' : Nat}{lv:LV}
theorem zma (hc:CxOk X.P X.w0 X.base cx) (hr:HR G B h H) (h0:ER B (gF f0) E0) (hv:ER B (gF val) V) (ho:os[i]? = some o) (hd:zcq X.n o.dst=true) {v:LV}(hq:zhJ cx os (gF f0) val i o h = .ok v):∃ u,VR B v u∧PureTwo X os E0 V H i u:=by
 have hE:=zil h0 hv ho
 unfold zhJ at hq
 split at hq
 ·cases hq
 ·rename_i hw
  cases hq
  exact ⟨Go.undef,zdH,o,ho,hd,.inr ⟨zig hE hw,rfl⟩⟩
 ·rename_i hw
  obtain ⟨u,h1,h2⟩:=zx4 hc hr hE hq
  exact ⟨u,h1,o,ho,hd,.inl ⟨zig hE hw,h2⟩⟩
theorem zpD {g:Nat}{r:Res}(hq:zw5 g r c = .done v2 nx2 h2):∃ lv nx1 h1,r = .done lv nx1 h1∧c lv nx1 h1 = .done v2 nx2 h2:=by
 unfold zw5 at hq
 grind
theorem zrX {g:Nat}{r:Rs}(hq:rsR g r c = .done v2 nx2 h2):∃ lv nx1 h1,r = .ok lv nx1 h1∧c lv nx1 h1 = .done v2 nx2 h2:=by
 unfold rsR at hq
 grind
theorem zxf {run:Run}(hc:CxF X.P X.w0 X.base cx) (hs:Sim X.P X.w0 X.base run) (hr:HR G B h H) (hn:B.length=nx) (hE:ER B f E) {w:Nat} 
  (hq:zAB cx w run ((zem cx cl xs.toList).go f h) nx h c = .done v2 nx2 h2):∃ lv nx1 h1,c lv nx1 h1 = .done v2 nx2 h2∧Does X E H (.call ⟨cl,xs,ts⟩) (MR G B lv nx1 h1):=by
 have hcl:=zmU X (cl:=cl) (xs:=xs) hc hr hE
 unfold zAB at hq
 split at hq
 ·rename_i g args hcal
  rw [hcal] at hcl
  obtain ⟨us,hu,hrun⟩:=hcl
  split at hq
  ·rename_i p hpr
   obtain ⟨lv,nx1,h1,hp,hk⟩:=zrX hq
   refine ⟨lv,nx1,h1,hk,?_⟩
   rcases hc.pr G g p hpr _ _ _ _ _ _ B H us hp hu hn hr with hv0 | ⟨hbody,hsc⟩
   ·refine zaq Z fun dst ty pos after g' ρ w hρ S => ?_
    obtain ⟨u,w',H',r1,r2,r3⟩:=hv0 w S
    refine ⟨u,w',H',?_,r2,r3⟩
    rw [← r1]
    exact hrun ρ hρ ts ty w S
   ·intro dst ty pos after g' ops i is k ds a w' ho hw ha S
    have hrun:=hrun (evA a) ha ts ty w' S
    rw [zcX hbody] at hrun
    obtain ⟨e,w2,fr,⟨u,H',rfl,r3,r2⟩,hcomes,_,hleave⟩:=hsc w' S (X.c.fr a ds (.inRegion ops (i::is)::k)::X.cs)
    refine ⟨u,H',w2,r3,r2,.head (zc8 ho hw (.inl Z) hrun) (Steps.trans hcomes (.one ?_))⟩
    have:=step_leave_returned (cs:=X.cs) (c:=X.c.fr a ds (.inRegion ops (i::is)::k)) hleave
    simp_all [zbq]
  ·obtain ⟨lv,nx1,h1,hp,hk⟩:=zpD hq
   refine ⟨lv,nx1,h1,hk,?_⟩
   intro dst ty pos after g' ops i is k ds a w' ho hw ha S
   have hrun:=hrun (evA a) ha ts ty w' S
   have hgo:=zdG (dfd:=false) (cs:=[]) (rcs:=[]) (cs0:=X.c.fr a ds (.inRegion ops (i::is)::k)::X.cs) hc hs hu rfl ⟨hn,hr,S⟩ (fun e => by cases e) (m:=lone (X.c.fr a ds (.inRegion ops (i::is)::k)) X.cs w') (fun hbody => by
    rw [zcX hbody] at hrun
    exact .one (zc8 ho hw (.inl Z) hrun))
   obtain ⟨m',st,u,B',H',w2,b1,b2,b3,b4,b5,fr,rfl,_,hleave⟩:=hgo _ _ _ hp
   refine ⟨u,H',w2,⟨B',b1,b2,b3,b4⟩,b5,st.trans (.one ?_)⟩
   have:=step_leave_returned (cs:=X.cs) (c:=X.c.fr a ds (.inRegion ops (i::is)::k)) hleave
   simp_all [zbq]
 ·rename_i l args hcal
  rw [hcal] at hcl
  obtain ⟨kb,us,hkb,hu,hrun⟩:=hcl
  unfold zxX at hq
  split at hq
  ·rename_i st pend fn lf ps assign body dfs hlo
   split at hq
   ·rename_i hlen
    have hlen:=zar.1 hlen
    rw [zk0] at hq
    obtain ⟨lv,nx1,h1,hp,hk⟩:=zpD hq
    refine ⟨lv,nx1,h1,hk,?_⟩
    intro dst ty pos after g' ops i is k ds a w' ho hw ha S
    have hrun:=hrun (evA a) ha ts ty w' S
    have hgo:=zke (cs:=[]) (rcs:=[]) (cs0:=X.c.fr a ds (.inRegion ops (i::is)::k)::X.cs) hs hkb hu rfl ⟨hn,hr,S⟩ (m:=lone (X.c.fr a ds (.inRegion ops (i::is)::k)) X.cs w') hlo hlen (fun _ => by simp) (fun fn tmps assign body hy => by
     have hrun:(execOp (evA a) ⟨dst,.call ⟨cl,xs,ts⟩,ty,pos,after,g'⟩).run X.P w' = (Instr.yield kb.b us.toArray).run X.P w':=hrun
     rw [hy] at hrun
     refine .one (step_lone_go ?_)
     rw [zcn ho hw (.inl rfl)]
     simp [stepG.apply,hrun,Ctx.fr])
    obtain ⟨m',st',u,B',H',w2,b1,b2,b3,b4,b5,c1,cs1,he,rfl⟩:=hgo _ _ _ hp
    cases he
    refine ⟨u,H',w2,⟨B',b1,b2,b3,b4⟩,b5,?_⟩
    simp_all [zbq]
   grind
  grind
 grind
theorem zAX {run:Run}(hc:CxF X.P X.w0 X.base cx) (hs:Sim X.P X.w0 X.base run) (hr:HR G B h H) (hn:B.length=nx) (hE:ER B f E) {w:Nat}{o:Op} 
  (hq:(actE cx w o).go run f nx h c = .done v2 nx2 h2):∃ lv nx1 h1,c lv nx1 h1 = .done v2 nx2 h2∧Does X E H o (MR G B lv nx1 h1):=by
 unfold actE at hq
 split at hq
 ·simp only [zaJ] at hq
  obtain ⟨lv,nx1,h1,hp,hk⟩:=zrX hq
  exact ⟨lv,nx1,h1,hk,zx5 hc.ok hr hn hE hp⟩
 ·split at hq
  ·simp only [zaJ] at hq
   exact zxf hc hs hr hn hE hq
  ·cases hq
 ·cases hq
def CrOk (cx:Cx) (B:BB) (op:Op) (f:SlF) (b:Nat) (obj:Obj) (u:Value):Prop :=
 ∀ nx h lv nx' h',(opM cx op).go f nx h = .ok lv nx' h'→nx' = nx + 1∧∃ (k:Bk) (lo:LO),k.b=b∧h' = Tr.set .gone lo h nx∧∀ B',B <+: B'→B'.length=nx→OR (B'++[k]) k obj lo∧VR (B'++[k]) lv u
theorem CrOk.mono (hp:B <+: B') {b:Nat}(h:CrOk cx B op f b obj u):CrOk cx B' op f b obj u:=by
 intro nx h0 lv nx' h' hq
 obtain ⟨h1,k,lo,h2,h3,h4⟩:=h nx h0 lv nx' h' hq
 grind
theorem LOR.new {sz:Nat}{vs:List Value}(hl:LOR B sz vs lo) (h1:∀ c ∈ vs,c.oneCell' = true) (b:Nat) (e:TypeId) (hp:B <+: B') :
  OR (B'++[⟨b,0,vs.length,sz⟩]) ⟨b,0,vs.length,sz⟩ (.cells vs.toArray e (0,0)) lo :=
 (hl.mono (hp.trans (zDR _ _))).or (cs:=vs.toArray) (rest:=[]) kY kY kQ b e (zaY _) (.inr rfl)
theorem zo7 (hb:∀ e,zd6 cx e=true→(mkTI P e).sz=1) {l:List LV}{vs:List Value}(hv:VRL B l vs) (h1:∀ c ∈ vs,c.oneCell' = true) {v:Nat→LV}{b:Nat}(hty:cx.ty=mkTI P)
  (hu:∀ (nx:Nat) (B' : BB) (k:Bk),k.b=b→k.off=0→B'.length=nx→VR (B'++[k]) (v nx) u) (hq:zmj (zd6 cx e) (cx.ty e).sz l (v nx) nx h = .ok lv nx' h') :
  nx' = nx + 1∧∃ (k:Bk) (lo:LO),k.b=b∧h' = Tr.set .gone lo h nx∧∀ B',B <+: B'→B'.length=nx→OR (B'++[k]) k (.cells vs.toArray e (0,0)) lo∧VR (B'++[k]) lv u:=by
 obtain ⟨lo,h2,rfl,rfl,rfl⟩:=zeW hq
 refine ⟨Z,_,lo,Z,Z,fun B' hp hl => ⟨(zd4 h2 hv (fun hb' => by simp_all)).new h1 b e hp,hu nx B' _ Z Z hl⟩⟩
theorem zsB (hb:∀ e,zd6 cx e=true→(mkTI P e).sz=1) (hty:cx.ty=mkTI P) {x:LV}{z:Value}(hz:x≠.undef→VR B x z) (b:Nat) (hq:newE cx e (cells x) nx h = .ok lv nx' h') :
  nx' = nx + 1∧∃ (k:Bk) (lo:LO),k.b=b∧h' = Tr.set .gone lo h nx∧∀ B',B <+: B'→B'.length=nx→OR (B'++[k]) k (.cells z.cells e (0,0)) lo∧VR (B'++[k]) lv (pB b):=by
 have hu:∀ (nx:Nat) (B' : BB) (k:Bk),k.b=b→k.off=0→B'.length=nx→VR (B'++[k]) (.ptr nx 0) (.pointer (some ⟨b,0,none⟩)):=by
  grind [VR,zdQ]
 unfold newE at hq
 split at hq
 ·rename_i hl
  obtain ⟨rfl,rfl,rfl⟩:=zcT hq
  have hz:=hz (fun e => by rw [e] at hl; cases hl)
  obtain ⟨c1,c2⟩:=zb0 hz hl
  simp only [VRL] at c1
  refine ⟨Z,⟨b,0,z.cells.toList.length,1⟩,_,Z,Z,fun B' hp hl => ⟨?_,hu nx B' _ Z Z hl⟩⟩
  have:=LOR.new (B:=B) (lo:=.rows 1 0 .e) (sz:=1) (vs:=z.cells.toList) ⟨rfl,by omega,by simp,fun r hr => absurd hr kQ⟩ c2 b e hp
  omega
 ·rename_i l _ hl
  have hz:=hz (fun e => by rw [e] at hl; cases hl)
  obtain ⟨c1,c2⟩:=zb0 hz hl
  have:=zo7 hb c1 c2 (v:=fun nx => .ptr nx 0) (u:=.pointer (some ⟨b,0,none⟩)) (b:=b) hty hu hq
  omega
 grind
theorem zqR (hc:CxOk X.P X.w0 X.base cx) (hE:ER B f E) (ha:isAl o=true) (hq:(opM cx o.op).go f nx h = .ok lv nx' h') :
  ∃ (obj:Obj) (mk:Nat→Value),Does X E H o.op (fun u H' => ∃ b,u=mk b∧H' = [(b,obj)]::H)∧∀ b,CrOk cx B o.op f b obj (mk b):=by
 have hb:∀ e,zd6 cx e=true→(mkTI X.P e).sz=1:=fun e he => (zfK hc he).1
 unfold isAl at ha
 split at ha
 ·rename_i e hop
  rw [hop] at hq ⊢
  simp only [opM,zaJ] at hq
  have hz0:(mkTI X.P e).zero≠.undef:=by
   intro e0
   unfold newE at hq
   rw [hc.ty,e0] at hq
   grind [cells]
  obtain ⟨_,z,z1,z2,z3,z4⟩:=zck (P:=X.P) (t:=e) B hz0
  refine ⟨.cells z.cells e (0,0),fun b => pB b,Do.alloc z2 Z,fun b nx h lv nx' h' hq => ?_⟩
  simp only [opM,zaJ] at hq
  rw [hc.ty] at hq
  exact zsB hb hc.ty (fun _ => z3) b hq
 ·rename_i e x hop
  rw [hop] at hq ⊢
  simp only [opM,zaJ] at hq
  have hz0:evO x f≠.undef:=by
   grind [newE,cells]
  obtain ⟨z,v1,v2⟩:=hE.ev x hz0
  refine ⟨.cells z.cells e (0,0),fun b => pB b,zpW Z v1,fun b nx h lv nx' h' hq => ?_⟩
  simp only [opM,zaJ] at hq
  exact zsB hb hc.ty (fun _ => v2) b hq
 ·rename_i t n ps hop
  rw [hop] at hq ⊢
  simp only [opM,zaJ] at hq
  unfold zdT at hq
  rw [hc.ty] at hq
  cases hk:(mkTI X.P t).kind <;> simp only [hk,zaJ] at hq
  case slice e =>
   obtain ⟨hu,hke⟩:=zbX hk
   have hq0:=hq
   unfold bslE at hq
   rw [hc.ty] at hq
   split at hq
   ·rename_i z hz hle
    have hle' : n * (mkTI X.P e).sz≤16777216:=zaP.1 hle
    split at hq
    ·rename_i l hl
     obtain ⟨_,zv,z1,z2,z3,z4⟩:=zck (P:=X.P) (t:=e) B (fun e => by rw [e] at hz; cases hz)
     obtain ⟨c1,c2⟩:=zb0 z3 hz
     obtain ⟨vs,v1,v2,v3⟩:=zjj hE ps.toList (zeK _ _ _ hl)
     obtain ⟨r,r1,r2,r3,r4⟩:=zgY (place:=plcA (mkTI X.P e).sz) _ vs (repL n z) (List.replicate n zv.cells.toList).flatten l (by rw [v2,zeD]) v3 (c1.rep n) (ziP c2 n) hl
     refine ⟨.cells r.toArray e (0,0),fun b => .slice (some ⟨b,0,none⟩) n n,za2 hu z2 (zkX hke) (zar.2 kQ) (zaP.2 hle') v1 r1,fun b nx h lv nx' h' hq => ?_⟩
     simp only [opM,zaJ] at hq
     unfold zdT at hq
     rw [hc.ty] at hq
     simp only [hk,zaJ] at hq
     unfold bslE at hq
     rw [hc.ty] at hq
     simp only [hz,hle,hl] at hq
     refine zo7 hb r2 r3 (v:=fun nx => .sl nx 0 n n) (u:=.slice (some ⟨b,0,none⟩) n n) (b:=b) hc.ty (fun nx B' k hk ho hl => ?_) (by rw [hc.ty]; exact hq)
     grind [VR,zdQ]
    grind
   grind
  all_goals cases hq
 grind
end
structure Ear where
  e:Nat
  b:Nat
  obj:Obj
def geOf (S:List Ear):List (Nat×Obj):=S.map fun s => (s.b,s.obj)
section
variable {G:List (Nat×Obj)}{B:BB}{h:LH}{H:List Seg}
theorem HR.more (hr:HR G B h H) (g:Nat×Obj):HR (g::G) B h ([g]::H):=by
 obtain ⟨p,h1,h2,h3⟩:=hr
 refine ⟨fun i => p i + 1,fun i hi => ?_,fun i i' hi hi' he => h2 i i' hi hi' (by grind),fun g' hg => ?_⟩
 ·grind
 ·rcases zDp.1 hg with rfl | hg
  ·exact ⟨0,by simp,fun i _ => by simp⟩
  ·obtain ⟨j,j1,j2⟩:=h3 g' hg
   exact ⟨j + 1,by grind,fun i hi => by grind⟩
theorem HR.join {G1 G2:List (Nat×Obj)}{g:Nat×Obj}(hr:HR (G1++g::G2) B h H) (hn:B.length=nx) (hk:k.b=g.1) (hor:OR (B++[k]) k g.2 lo) (hd:∀ g' ∈ G1++G2,g'.1≠g.1):HR (G1++G2) (B++[k]) (Tr.set .gone lo h nx) H:=by
 have hp:B <+: B++[k]:=zDR _ _
 obtain ⟨p,h1,h2,h3⟩:=hr
 obtain ⟨jg,g1,g2⟩:=h3 g kY
 have old:∀ i,i≠nx→zbA (atB (Tr.set .gone lo h nx) i)=true→zbA (atB h i)=true:=by
  simp_all [zch,zDb]
 refine ⟨fun i => if i=nx then jg else p i,fun i hi => ?_,fun i i' hi hi' he => ?_,fun g' hg => ?_⟩
 ·by_cases e:i=nx
  ·subst e
   refine ⟨k,g.2,by grind,by grind,?_⟩
   rw [zch,zDi rfl]; omega
  ·obtain ⟨k1,o1,a1,a2,a3⟩:=h1 i (old i e hi)
   refine ⟨k1,o1,zb8 hp a1,by grind,?_⟩
   rw [zch,zDb e]; exact a3.mono hp
 ·by_cases e:i=nx <;> by_cases e' : i' = nx
  ·omega
  ·grind
  ·grind
  grind
 ·obtain ⟨j,j1,j2⟩:=h3 g' (by
   grind)
  grind
theorem HR.mem_g (hr:HR G B h H) {g:Nat×Obj}(hg:g ∈ G):g ∈ H.flatten:=by
 obtain ⟨p,_,_,h3⟩:=hr
 obtain ⟨j,j1,_⟩:=h3 g hg
 exact zD9.2 ⟨[g],zEV j1,by simp⟩
end
section
variable (X:Pt) (cx:Cx) (os:List Oper) (f0:Fr) (E0:Env) (G:List (Nat×Obj)) (B0:BB)
structure DS (kn:Nat) (acts:List Nat) (val:Fr) (nx:Nat) (h:LH) (B:BB) (H:List Seg) (pv xv:Env) (S:List Ear):Prop where
  bp:B0 <+: B
  len:B.length=nx
  hr:HR (geOf S++G) B h H
  e0:ER B (gF f0) E0
  er:ER B (gF val) (pv++xv)
  low:∀ i,zaj (pv++xv) i=true→i < os.length
  known:∀ i,zaj (pv++xv) i=true↔(zb6 kn i=true∨∃ s ∈ S,s.e=i)
  ent:∀ p ∈ pv,zb6 kn p.1=true∧p.1 ∉ acts∧VR B (gF val p.1) p.2
  act:∀ e ∈ acts,zb6 kn e=true∧∃ p ∈ xv,p.1=e
  pure:∀ p ∈ pv,(xv.any fun q => befB (zco os []) p.1 q.1)=true∨PureTwo X os E0 (pv++xv) H p.1 p.2
  ear:∀ s ∈ S,∃ o u,os[s.e]? = some o∧isAl o=true∧zb6 kn s.e=false∧zhI os kn (s.e,o)=true∧Env.get (pv++xv) s.e=some u∧(∃ p ∈ xv,p.1=s.e)∧CrOk cx B o.op (zeZ os (gF f0) val s.e (zaR os o)) s.b s.obj u∧ziA os o.guard (zeZ os (gF f0) val s.e (zaR os o))=some true
  nd:(S.map (·.b)).Nodup
  ng:∀ s ∈ S,s.b ∉ G.map (·.1)
  ne:(S.map (·.e)).Nodup
end
section
variable {X:Pt}{cx:Cx}{os:List Oper}{f0:Fr}{E0:Env}{G:List (Nat×Obj)}{B0:BB}{kn:Nat}{acts:List Nat}{val:Fr}{nx:Nat}{h:LH}{B:BB}{H:List Seg}{pv xv:Env}{S:List Ear}
theorem zlS:∀ (r:List Oper) (i:Nat),(∀ j,r[j]? = os[i + j]?)→∀ (j:Nat) (o:Oper),i≤j→os[j]? = some o→zb6 kn j=true→(acts.any fun e => Nat.beq j e || befB (zco os []) j e)=false→(j,o) ∈ ziC os kn acts r i
 | [],i,hr,j,o,hij,ho,_,_ => by
  have:=hr (j - i)
  rw [show i + (j - i)=j by omega,ho] at this
  simp at this
 | a::r,i,hr,j,o,hij,ho,hk,ha => by
  have hr' : ∀ j,r[j]? = os[i + 1 + j]?:=fun j => by
   have:=hr (j + 1)
   rw [zDz] at this
   rw [this]; congr 1; omega
  rw [ziC]
  by_cases e:j=i
  ·subst e
   have h0:=hr 0
   rw [zDZ,ho] at h0
   simp at h0
   subst h0
   rw [hk,ha]
   simp
  ·have:=zlS r (i + 1) hr' j o kQ ho hk ha
   split
   ·exact zDF _ this
   ·exact this
theorem zt3:∀ {l:List (Nat×Oper)},zjQ cx os (gF f0) h val l=true→∀ p ∈ l,∃ v,zhJ cx os (gF f0) val p.1 p.2 h = .ok v∧same h 20 v (gF val p.1)=true
 | [],_,p,hp => by simp at hp
 | (i,o)::l,hq,p,hp => by
  rw [zjQ] at hq
  split at hq
  ·rename_i v hv
   split at hq
   ·rename_i hs
    rcases zDp.1 hp with rfl | hp
    ·exact ⟨v,hv,hs⟩
    ·exact zt3 hq p hp
   ·cases hq
  ·cases hq
theorem znv (hc:CxOk X.P X.w0 X.base cx) (hdst:∀ (i:Nat) (o:Oper),os[i]? = some o→zcq X.n o.dst=true) {G' : List (Nat×Obj)}{xv':Env}(hr:HR G' B h H) (h0:ER B (gF f0) E0) (he:ER B (gF val) V') (hp:∀ p ∈ pv,p.1 < os.length∧zb6 kn p.1=true∧p.1 ∉ acts∧VR B (gF val p.1) p.2) (ha:∀ e ∈ acts,∃ q ∈ xv',q.1=e)
  (hchk:zjQ cx os (gF f0) h val (ziC os kn acts os 0)=true):∀ p ∈ pv,(xv'.any fun q => befB (zco os []) p.1 q.1)=true∨PureTwo X os E0 V' H p.1 p.2:=by
 intro p hmem
 obtain ⟨h1,h2,h3,h4⟩:=hp p hmem
 cases hb:(acts.any fun e => Nat.beq p.1 e || befB (zco os []) p.1 e) with
 | true =>
  left
  obtain ⟨e,e1,e2⟩:=zDP.1 hb
  obtain ⟨q,q1,rfl⟩:=ha e e1
  rw [zDw] at e2
  grind [absurd,zar,List.any_eq_true]
 | false =>
  right
  have ho:os[p.1]? = some os[p.1]:=zDJ h1
  obtain ⟨v,v1,v2⟩:=zt3 hchk _ (zlS os 0 (fun j => by grind) p.1 _ (zDq _) ho h2 hb)
  grind [zma,zl2]
theorem zcm :∀ j,zb6 kn j=true→zb6 (addK kn i) j=true:=fun j hj => by grind [zce]
theorem DS.unk (D:DS X cx os f0 E0 G B0 kn acts val nx h B H pv xv S) (hi:zb6 kn i=false) (hS:∀ s ∈ S,s.e≠i):zaj (pv++xv) i=false:=by
 cases hk:zaj (pv++xv) i with
 | false => rfl
 | true =>
  rcases (D.known i).1 hk with h | ⟨s,s1,s2⟩
  ·grind
  grind
theorem ztB (hle:Le V V') (he:ER B (gF val) V) {v:LV}(hu:Env.get V' i=some u) (hv:VR B v u):ER B (gF (Tr.set .undef v val i)) V':=by
 intro t ht
 by_cases e:t=i
 ·subst e
  refine ⟨u,hu,?_⟩
  show VR B (Tr.get .undef (Tr.set .undef v val t) t) u
  grind [zpq]
 ·have e2:gF (Tr.set .undef v val i) t=gF val t:=zfB e
  rw [e2] at ht ⊢
  obtain ⟨w,w1,w2⟩:=he t ht
  exact ⟨w,hle t w w1,w2⟩
theorem DS.quiet (hc:CxOk X.P X.w0 X.base cx) (hdst:∀ (i:Nat) (o:Oper),os[i]? = some o→zcq X.n o.dst=true) (D:DS X cx os f0 E0 G B0 kn acts val nx h B H pv xv S) (ho:os[i]? = some o) (hi:zb6 kn i=false) (hS:∀ s ∈ S,s.e≠i) {v:LV}(hq:zhJ cx os (gF f0) val i o h = .ok v) :
  ∃ u,zaj (pv++xv) i=false∧DS X cx os f0 E0 G B0 (addK kn i) acts (Tr.set .undef v val i) nx h B H ((i,u)::pv) xv S:=by
 have hu:=D.unk hi hS
 obtain ⟨u,u1,u2⟩:=zma hc D.hr D.e0 D.er ho (hdst _ _ ho) hq
 have hle:Le (pv++xv) ((i,u)::pv++xv):=Le.pure hu
 refine ⟨u,hu,D.bp,D.len,D.hr,D.e0,ztB hle D.er zps u1,fun j hj => ?_,fun j => ?_,fun p hp => ?_,fun e he => ⟨zcm _ (D.act e he).1,(D.act e he).2⟩,fun p hp => ?_,fun s hs => ?_,D.nd,D.ng,D.ne⟩
 ·rw [zf3,zDw] at hj
  rcases hj with hj | hj
  ·exact D.low j hj
  grind [zar,List.getElem?_eq_some_iff]
 ·rw [zf3,zDw,D.known j,zce,zDw]
  grind
 ·rcases zDp.1 hp with rfl | hp
  ·refine ⟨by rw [zce]; simp,fun hm => ?_,?_⟩
   ·have:=(D.act _ hm).1
    grind
   ·show VR B (Tr.get .undef (Tr.set .undef v val i) i) u
    grind [zpq]
  ·obtain ⟨p1,p2,p3⟩:=D.ent p hp
   have hne:p.1≠i:=fun e => by grind
   refine ⟨zcm _ p1,p2,?_⟩
   show VR B (Tr.get .undef (Tr.set .undef v val i) p.1) p.2
   rw [zfB hne]; exact p3
 ·rcases zDp.1 hp with rfl | hp
  ·exact .inr (u2.le hle)
  ·rcases D.pure p hp with h | h
   ·grind
   ·exact .inr (h.le hle)
 ·obtain ⟨o',u',s1,s2,s3,s4,s5,s6,s7⟩:=D.ear s hs
  have hne:s.e≠i:=hS s hs
  refine ⟨o',u',s1,s2,by rw [zce,s3,zbh (zFb hne)]; rfl,zgm zcm s4,by grind [zgh],s6,?_⟩
  grind [zi6]
theorem DS.acted (hc:CxOk X.P X.w0 X.base cx) (hdst:∀ (i:Nat) (o:Oper),os[i]? = some o→zcq X.n o.dst=true) (D:DS X cx os f0 E0 G B0 kn acts val nx h B H pv xv S) (ho:os[i]? = some o) (hi:zb6 kn i=false) (hS:∀ s ∈ S,s.e≠i) {nx1:Nat}{h1:LH}{B1:BB}{H1:List Seg}(hp:B <+: B1) (hl:B1.length=nx1) (hv:VR B1 lv u) (hr:HR (geOf S++G) B1 h1 H1)
  (hchk:zjQ cx os (gF f0) h1 val (ziC os kn (i::acts) os 0)=true):DS X cx os f0 E0 G B0 (addK kn i) (i::acts) (Tr.set .undef lv val i) nx1 h1 B1 H1 pv ((i,u)::xv) S:=by
 have hu:=D.unk hi hS
 have hle:Le (pv++xv) (pv++((i,u)::xv)):=Le.act hu
 have he:ER B1 (gF val) (pv++((i,u)::xv)):=fun t ht => by
  obtain ⟨w,w1,w2⟩:=D.er t ht
  exact ⟨w,hle t w w1,VR.mono hp _ _ w2⟩
 have hent:∀ p ∈ pv,p.1 < os.length∧zb6 kn p.1=true∧p.1 ∉ i::acts∧VR B1 (gF val p.1) p.2:=fun p hm => by
  obtain ⟨p1,p2,p3⟩:=D.ent p hm
  have hne:p.1≠i:=fun e => by grind
  exact ⟨D.low _ ((D.known _).2 (.inl p1)),p1,by grind,VR.mono hp _ _ p3⟩
 have hact:∀ e ∈ i::acts,∃ q ∈ ((i,u)::xv),q.1=e:=fun e hm => by
  rcases zDp.1 hm with rfl | hm
  ·simp_all
  ·obtain ⟨q,q1,q2⟩:=(D.act e hm).2
   grind
 refine ⟨D.bp.trans hp,hl,hr,D.e0.mono hp,ztB zuD he (znW hu) hv,fun j hj => ?_,fun j => ?_,fun p hm => ?_,fun e hm => ⟨?_,hact e hm⟩,znv hc hdst hr (D.e0.mono hp) he hent hact hchk,fun s hs => ?_,D.nd,D.ng,D.ne⟩
 ·rw [zct hu,zDw] at hj
  rcases hj with hj | hj
  ·exact D.low j hj
  grind [zar,List.getElem?_eq_some_iff]
 ·rw [zct hu,zDw,D.known j,zce,zDw]
  grind
 ·obtain ⟨_,p1,p2,p3⟩:=hent p hm
  have hne:p.1≠i:=fun e => by grind
  refine ⟨zcm _ p1,p2,?_⟩
  show VR B1 (Tr.get .undef (Tr.set .undef lv val i) p.1) p.2
  rw [zfB hne]; exact p3
 ·rcases zDp.1 hm with rfl | hm
  ·rw [zce]; simp
  ·exact zcm _ (D.act e hm).1
 ·obtain ⟨o',u',s1,s2,s3,s4,s5,⟨q,q1,q2⟩,s7⟩:=D.ear s hs
  have hne:s.e≠i:=hS s hs
  refine ⟨o',u',s1,s2,by rw [zce,s3,zbh (zFb hne)]; rfl,zgm zcm s4,by grind [zgR],⟨q,by grind,q2⟩,?_⟩
  rw [zi6 s4 hi]; exact ⟨s7.1.mono hp,s7.2⟩
theorem DS.joined (hc:CxOk X.P X.w0 X.base cx) (hdst:∀ (i:Nat) (o:Oper),os[i]? = some o→zcq X.n o.dst=true) {s:Ear}{S1 S2:List Ear}(D:DS X cx os f0 E0 G B0 kn acts val nx h B H pv xv (S1++s::S2)) (ho:os[s.e]? = some o) {nx1:Nat}{h1:LH}(hq:(opM cx o.op).go (zeZ os (gF f0) val s.e (zaR os o)) nx h = .ok lv nx1 h1)
  (hchk:zjQ cx os (gF f0) h1 val (ziC os kn (s.e::acts) os 0)=true):∃ B1,DS X cx os f0 E0 G B0 (addK kn s.e) (s.e::acts) (Tr.set .undef lv val s.e) nx1 h1 B1 H pv xv (S1++S2):=by
 obtain ⟨o',u,s1,s2,hi,s4,s5,s6,s7,_⟩:=D.ear s kY
 rw [ho] at s1; cases s1
 obtain ⟨rfl,k,lo,k1,rfl,k3⟩:=s7 _ _ _ _ _ hq
 obtain ⟨k4,k5⟩:=k3 B (zDj _) D.len
 have hp:B <+: B++[k]:=zDR _ _
 have hne0:∀ s' ∈ S1++S2,s'.e≠s.e:=by
  intro s' hs' e
  have hd:=D.ne
  grind
 have hnb:∀ s' ∈ S1++S2,s'.b≠s.b:=by
  intro s' hs' e
  have hd:=D.nd
  grind
 have sub:∀ s' ∈ S1++S2,s' ∈ S1++s::S2:=fun s' hs' => by
  grind
 have hr:HR (geOf (S1++S2)++G) (B++[k]) (Tr.set .gone lo h nx) H:=by
  have h0:=D.hr
  have e1:geOf (S1++s::S2)++G=geOf S1++(s.b,s.obj)::(geOf S2++G):=by simp [geOf]
  have e2:geOf (S1++S2)++G=geOf S1++(geOf S2++G):=by simp [geOf]
  rw [e1] at h0
  rw [e2]
  refine h0.join D.len (g:=(s.b,s.obj)) k1 k4 fun g' hg' => ?_
  rw [← zDg] at hg'
  rcases zDt.1 hg' with hg' | hg'
  ·have:g' ∈ geOf (S1++S2):=by grind [geOf]
   obtain ⟨s',hs',rfl⟩:=zDC.1 this
   grind
  ·intro e
   have e:g'.1=s.b:=e
   exact D.ng s kY (e ▸ zDC.2 ⟨g',hg',Z⟩)
 have he:ER (B++[k]) (gF val) (pv++xv):=fun t ht => by
  obtain ⟨w,w1,w2⟩:=D.er t ht
  grind [VR.mono]
 have hent:∀ p ∈ pv,p.1 < os.length∧zb6 kn p.1=true∧p.1 ∉ s.e::acts∧VR (B++[k]) (gF val p.1) p.2:=fun p hm => by
  obtain ⟨p1,p2,p3⟩:=D.ent p hm
  have hne:p.1≠s.e:=fun e => by grind
  exact ⟨D.low _ ((D.known _).2 (.inl p1)),p1,by grind,VR.mono hp _ _ p3⟩
 have hact:∀ e ∈ s.e::acts,∃ q ∈ xv,q.1=e:=fun e hm => by
  rcases zDp.1 hm with rfl | hm
  ·exact s6
  ·exact (D.act e hm).2
 refine ⟨B++[k],D.bp.trans hp,by simp [D.len],hr,D.e0.mono hp,ztB zuD he s5 k5,D.low,fun j => ?_,fun p hm => ?_,fun e hm => ⟨?_,hact e hm⟩,znv hc hdst hr (D.e0.mono hp) he hent hact hchk,fun s' hs => ?_,?_,fun s' hs => D.ng s' (sub s' hs),?_⟩
 ·rw [D.known j,zce,zDw]
  constructor
  ·rintro (h | ⟨s',h,rfl⟩)
   ·grind
   ·rcases zDt.1 h with h | h
    ·grind
    ·rcases zDp.1 h with rfl | h
     ·simp_all
     grind
  ·rintro ((h | h) | ⟨s',h,rfl⟩)
   ·grind
   ·grind [zar]
   grind
 ·obtain ⟨_,p1,p2,p3⟩:=hent p hm
  have hne:p.1≠s.e:=fun e => by grind
  refine ⟨zcm _ p1,p2,?_⟩
  show VR (B++[k]) (Tr.get .undef (Tr.set .undef lv val s.e) p.1) p.2
  rw [zfB hne]; exact p3
 ·rcases zDp.1 hm with rfl | hm
  ·rw [zce]; simp
  ·exact zcm _ (D.act e hm).1
 ·obtain ⟨o',u',t1,t2,t3,t4,t5,t6,t7⟩:=D.ear s' (sub s' hs)
  have hne:s'.e≠s.e:=hne0 s' hs
  refine ⟨o',u',t1,t2,by rw [zce,t3,zbh (zFb hne)]; rfl,zgm zcm t4,t5,t6,?_⟩
  rw [zi6 t4 hi]; exact ⟨t7.1.mono hp,t7.2⟩
 ·have hd:=D.nd
  grind
 ·have hd:=D.ne
  grind
theorem DS.early (hc:CxOk X.P X.w0 X.base cx) (hdst:∀ (i:Nat) (o:Oper),os[i]? = some o→zcq X.n o.dst=true) (D:DS X cx os f0 E0 G B0 kn acts val nx h B H pv xv S) {e:Nat}(ho:os[e]? = some o) (hal:isAl o=true) (hi:zb6 kn e=false) (hS:∀ s ∈ S,s.e≠e) (hrd:zhI os kn (e,o)=true) {b:Nat} 
  (hcr:CrOk cx B o.op (zeZ os (gF f0) val e (zaR os o)) b obj u) (hwt:ziA os o.guard (zeZ os (gF f0) val e (zaR os o))=some true) (hnd:(([(b,obj)]::H).flatten.map (·.1)).Nodup) (hchk:zjQ cx os (gF f0) h val (ziC os kn acts os 0)=true) :
  DS X cx os f0 E0 G B0 kn acts val nx h B ([(b,obj)]::H) pv ((e,u)::xv) (⟨e,b,obj⟩::S):=by
 have hu:=D.unk hi hS
 have hle:Le (pv++xv) (pv++((e,u)::xv)):=Le.act hu
 have he:ER B (gF val) (pv++((e,u)::xv)):=fun t ht => by
  obtain ⟨w,w1,w2⟩:=D.er t ht
  exact ⟨w,hle t w w1,w2⟩
 have hr:HR (geOf (⟨e,b,obj⟩::S)++G) B h ([(b,obj)]::H):=D.hr.more (b,obj)
 have hfresh:∀ g ∈ geOf S++G,g.1≠b:=by
  intro g hg e
  have hm:=D.hr.mem_g hg
  grind
 have hact:∀ e' ∈ acts,∃ q ∈ ((e,u)::xv),q.1=e':=fun e' hm => by
  obtain ⟨q,q1,q2⟩:=(D.act e' hm).2
  grind
 refine ⟨D.bp,D.len,hr,D.e0,he,fun j hj => ?_,fun j => ?_,D.ent,fun e' hm => ⟨(D.act e' hm).1,hact e' hm⟩,znv hc hdst hr D.e0 he (fun p hm => ?_) hact hchk,fun s hs => ?_,?_,fun s hs => ?_,?_⟩
 ·rw [zct hu,zDw] at hj
  rcases hj with hj | hj
  ·exact D.low j hj
  grind [zar,List.getElem?_eq_some_iff]
 ·rw [zct hu,zDw,D.known j]
  constructor
  ·rintro ((h | ⟨s,h,rfl⟩) | h)
   ·grind
   ·grind
   simp_all
  ·rintro (h | ⟨s,h,rfl⟩)
   ·grind
   ·rcases zDp.1 h with rfl | h
    ·simp_all
    grind
 ·obtain ⟨p1,p2,p3⟩:=D.ent p hm
  exact ⟨D.low _ ((D.known _).2 (.inl p1)),p1,p2,p3⟩
 ·rcases zDp.1 hs with rfl | hs
  ·exact ⟨o,u,ho,hal,hi,hrd,znW hu,⟨(e,u),by simp,Z⟩,hcr,hwt⟩
  ·obtain ⟨o',u',t1,t2,t3,t4,t5,⟨q,q1,q2⟩,t7⟩:=D.ear s hs
   exact ⟨o',u',t1,t2,t3,t4,hle _ _ t5,⟨q,by grind,q2⟩,t7⟩
 ·rw [zDo]
  refine zE5.2 ⟨fun hm => ?_,D.nd⟩
  obtain ⟨s,s1,s2⟩:=zDC.1 hm
  exact hfresh (s.b,s.obj) (zEp _ (zDC.2 ⟨s,s1,Z⟩)) s2
 ·rcases zDp.1 hs with rfl | hs
  ·intro hm
   obtain ⟨g,g1,g2⟩:=zDC.1 hm
   grind
  ·exact D.ng s hs
 ·rw [zDo]
  refine zE5.2 ⟨fun hm => ?_,D.ne⟩
  grind
end
section
variable {cx:Cx}{os:List Oper}{kn:Nat}
theorem zye (h:isAl o=true):opK cx o.op = .m:=by
 unfold isAl at h
 split at h
 ·rename_i h1; rw [h1]; rfl
 ·rename_i h1; rw [h1]; rfl
 ·rename_i h1; rw [h1]; rfl
 grind
theorem zB7 (h:isAl o=true):isQ cx o=false:=by
 grind [isQ,zye]
theorem zwm (h:isAl o=true) (g:Nat) (run:Run) (f:SlF) (nx:Nat) (hh:LH) (c:LV→Nat→LH→Res):(actE cx g o.op).go run f nx hh c=rsR g ((opM cx o.op).go f nx hh) c:=by
 simp_all [actE,zye]
theorem zld {l:List (Nat×Oper)}:memP l j=true↔∃ q ∈ l,q.1=j:=by
 unfold memP
 simp_all
theorem zsX:∀ {l:List (Nat×Oper)}{kn j:Nat},zb6 (knA kn l) j=(zb6 kn j || memP l j)
 | [],kn,j => by simp [knA,memP]
 | p::l,kn,j => by
  rw [knA,zsX,zce]
  simp only [memP,List.any_cons]
  rw [Bool.or_assoc]
theorem zoX:∀ {l:List (Nat×Oper)}{m:Nat×Oper}{oth:List (Nat×Oper)},zsh l=some (m,oth)→m ∈ l∧∀ q ∈ oth,q ∈ l∧isAl q.2=true
 | [],m,oth,h => by grind [zsh]
 | (i,o)::r,m,oth,h => by
  unfold zsh at h
  split at h
  ·grind
  ·rename_i ho
   split at h
   ·grind
   ·split at h
    ·rename_i m' oth' hp
     cases h
     obtain ⟨h1,h2⟩:=zoX hp
     grind
    grind
theorem znp {r:List Oper}{a:Oper}(hr:∀ j,(a::r)[j]? = os[i + j]?):os[i]? = some a∧∀ j,r[j]? = os[i + 1 + j]?:=by
 constructor
 ·have:=hr 0
  grind
 ·intro j
  have:=hr (j + 1)
  grind
theorem zgJ:∀ (r:List Oper) (i:Nat),(∀ j,r[j]? = os[i + j]?)→∀ p ∈ zkg r i kn,os[p.1]? = some p.2∧zb6 kn p.1=false
 | [],i,hr,p,hp => by simp [zkg] at hp
 | o::r,i,hr,p,hp => by
  obtain ⟨h0,h1⟩:=znp hr
  rw [zkg] at hp
  split at hp
  ·rename_i hc
   rw [zC9,zDQ] at hc
   rcases zDp.1 hp with rfl | hp
   ·exact ⟨h0,hc.1⟩
   ·exact zgJ r (i + 1) h1 p hp
  ·exact zgJ r (i + 1) h1 p hp
theorem zoy {m:Nat}{oth:List (Nat×Oper)}:∀ (r:List Oper) (i:Nat),(∀ j,r[j]? = os[i + j]?)→zp3 kn m oth r i=true→∀ (j:Nat) (o:Oper),i≤j→os[j]? = some o→zb6 kn j=true∨j=m∨memP oth j=true∨∃ d ∈ zcO o,zb6 (knA kn oth) d=false
 | [],i,hr,_,j,o,hij,ho => by
  have:=hr (j - i)
  rw [show i + (j - i)=j by omega,ho] at this
  simp at this
 | a::r,i,hr,hw,j,o,hij,ho => by
  obtain ⟨h0,h1⟩:=znp hr
  rw [zp3] at hw
  split at hw
  ·rename_i hc
   by_cases e:j=i
   ·subst e
    rw [h0] at ho; cases ho
    rw [zDw,zDw,zDw] at hc
    rcases hc with hc | hc | hc | hc
    ·exact .inl hc
    ·exact .inr (.inl (zar.1 hc).symm)
    ·exact .inr (.inr (.inl hc))
    ·obtain ⟨d,d1,d2⟩:=zDP.1 hc
     exact .inr (.inr (.inr ⟨d,d1,by simpa using d2⟩))
   ·exact zoy r (i + 1) h1 hw j o kQ ho
  ·cases hw
theorem zsx {oth':List (Nat×Oper)}(h:zsy os kn oth = .act i o oth'):os[i]? = some o∧zb6 kn i=false∧(∀ q ∈ oth',os[q.1]? = some q.2∧zb6 kn q.1=false∧isAl q.2=true∧zhI os kn q=true)∧zp3 kn i oth' os 0=true∧∀ q ∈ oth,q.1=i∨memP oth' q.1=true:=by
 unfold zsy at h
 split at h
 ·split at h <;> cases h
 ·rename_i i' o' oth2 hp
  split at h
  ·rename_i hc
   rw [zaV] at h
   cases h
   rw [zC9,zC9] at hc
   obtain ⟨h1,h2⟩:=zoX hp
   have hr:∀ j,os[j]? = os[0 + j]?:=fun j => by grind
   obtain ⟨a1,a2⟩:=zgJ os 0 hr _ h1
   refine ⟨a1,a2,fun q hq => ?_,hc.1,fun q hq => ?_⟩
   ·grind [zgJ,List.all_eq_true]
   ·have:=zDa.1 hc.2.1 q hq
    simp_all
  grind
theorem zsw (h:zsy os kn oth = .fin):oth=[]∧kn=Nat.pred (Nat.pow 2 os.length):=by
 unfold zsy at h
 split at h
 ·split at h
  ·simp_all
  grind
 grind [zaV]
end
section
variable {X:Pt}{cx:Cx}{os:List Oper}{f0:Fr}{E0:Env}{G:List (Nat×Obj)}{B0:BB}{kn:Nat}{acts:List Nat}{val:Fr}{nx:Nat}{h:LH}{B:BB}{H:List Seg}{pv xv:Env}{S:List Ear}{v2:LV}{nx2:Nat}{h2:LH}{k:List Item}{ds:List Deferred}{g:Nat}{run:Run}
theorem ziT (hc:CxOk X.P X.w0 X.base cx) (hdst:∀ (i:Nat) (o:Oper),os[i]? = some o→zcq X.n o.dst=true) {c:Fr→Res}:∀ (r:List Oper) (i:Nat) {kn:Nat}{val:Fr}{pv:Env},(∀ j,r[j]? = os[i + j]?)→DS X cx os f0 E0 G B0 kn acts val nx h B H pv xv S →
  qsE cx os (gF f0) h Res.bad c (zhH cx r i kn).1 val = .done v2 nx2 h2→∃ val' pv',c val' = .done v2 nx2 h2∧DS X cx os f0 E0 G B0 (zhH cx r i kn).2 acts val' nx h B H (pv'++pv) xv S∧∀ p ∈ pv',zaj (pv++xv) p.1=false
 | [],i,kn,val,pv,hr,D,hq => ⟨val,[],hq,D,fun p hp => by simp at hp⟩
 | o::r,i,kn,val,pv,hr,D,hq => by
  obtain ⟨h0,h1⟩:=znp hr
  rw [zhH] at hq ⊢
  split at hq
  ·rename_i hcond
   simp only [hcond] at hq ⊢
   rw [zC9,zC9,zDQ] at hcond
   obtain ⟨c1,c2,c3⟩:=hcond
   have hS:∀ s ∈ S,s.e≠i:=by
    intro s hs e
    obtain ⟨o',u,s1,s2,_⟩:=D.ear s hs
    rw [e,h0] at s1; cases s1
    rw [zB7 s2] at c3; cases c3
   rw [qsE] at hq
   split at hq
   ·rename_i v hv
    rw [zb5] at hq
    obtain ⟨u,u1,D'⟩:=D.quiet hc hdst h0 c1 hS hv
    obtain ⟨val',pv',q1,q2,q3⟩:=ziT hc hdst r (i + 1) h1 D' hq
    refine ⟨val',pv'++[(i,u)],q1,by simpa using q2,fun p hp => ?_⟩
    rcases zDt.1 hp with hp | hp
    ·have:=q3 p hp
     rw [zf3,zEq] at this
     exact this.1
    ·have:p=(i,u):=by simpa using hp
     rw [this]; exact u1
   ·cases hq
  ·rename_i hcond
   exact ziT hc hdst r (i + 1) h1 D hq
def zCS (X:Pt) (cx:Cx) (os:List Oper) (f0:Fr) (E0:Env) (G:List (Nat×Obj)) (B0:BB) (k:List Item) (ds:List Deferred) (v2:LV) (nx2:Nat) (h2:LH) (nxt:Nat→List Nat→List (Nat×Oper)→Fr→Nat→LH→Res):Prop :=
 ∀ kn acts oth val nx h B H pv xv S,DS X cx os f0 E0 G B0 kn acts val nx h B H pv xv S→(∀ s ∈ S,memP oth s.e=true)→nxt kn acts oth val nx h = .done v2 nx2 h2 →
  ∃ pv',(∀ p ∈ pv',zaj (pv++xv) p.1=false)∧PhI X os k E0 ds (pv'++pv) xv H
theorem zvZ (hc:CxF X.P X.w0 X.base cx) (hs:Sim X.P X.w0 X.base run) (hdst:∀ (i:Nat) (o:Oper),os[i]? = some o→zcq X.n o.dst=true) {nxt:Nat→List Nat→List (Nat×Oper)→Fr→Nat→LH→Res}(hn:zCS X cx os f0 E0 G B0 k ds v2 nx2 h2 nxt) 
  (ho:os[i]? = some o) (hi:zb6 kn i=false) (hoth:∀ q ∈ oth,os[q.1]? = some q.2∧zb6 kn q.1=false∧isAl q.2=true∧zhI os kn q=true) (hw:zp3 kn i oth os 0=true) (hpre:preC cx os (gF f0) kn acts oth val nx h=true)
  (hq:actP cx g os run (gF f0) nxt kn acts val nx h i o oth = .done v2 nx2 h2) :
  ∀ (n:Nat) {H:List Seg}{xv:Env}{S:List Ear},DS X cx os f0 E0 G B0 kn acts val nx h B H pv xv S→(∀ s ∈ S,s.e=i∨memP oth s.e=true)→(oth.filter fun q => !zaj (pv++xv) q.1).length=n →
   ∃ pv',(∀ p ∈ pv',zaj (pv++xv) p.1=false)∧PhI X os k E0 ds (pv'++pv) xv H:=by
 intro n
 induction n using Nat.strongRecOn with
 | _ n ih =>
 intro H xv S D hS hlen
 unfold actP at hq
 by_cases hA:∃ s ∈ S,s.e=i
 ·obtain ⟨s,s1,rfl⟩:=hA
  obtain ⟨S1,S2,rfl⟩:=List.append_of_mem s1
  obtain ⟨o',u,t1,t2,t3,_,_,_,_,t8⟩:=D.ear s s1
  rw [ho] at t1; cases t1
  rw [t8] at hq
  simp only at hq
  rw [zwm t2] at hq
  obtain ⟨lv,nx1,h1,r1,r2⟩:=zrX hq
  split at r2
  ·rename_i hchk
   rw [zb5,zaV] at r2
   obtain ⟨B1,D'⟩:=D.joined hc.ok hdst ho r1 hchk
   have hne:=D.ne
   rw [zDL,zDo] at hne
   have hne:=zE9.1 hne
   have hne2:=zE5.1 hne.2.1
   refine hn _ _ _ _ _ _ _ _ _ _ _ D' (fun s' hs' => ?_) r2
   grind
  grind
 ·have hSi:∀ s ∈ S,s.e≠i:=fun s hs e => hA ⟨s,hs,e⟩
  have hSo:∀ s ∈ S,memP oth s.e=true:=fun s hs => (hS s hs).resolve_left (hSi s hs)
  have hunk:=D.unk hi hSi
  have hE:=zil D.e0 D.er ho
  split at hq
  ·rename_i hwt
   obtain ⟨lv,nx1,h1,r2,hdoes⟩:=zAX hc hs D.hr D.len hE hq
   split at r2
   ·rename_i hchk
    rw [zb5,zaV] at r2
    refine ⟨[],fun p hp => by grind,?_⟩
    rw [zDG]
    have early:∀ e ∈ oth.filter (fun q => !zaj (pv++xv) q.1),e.1≠i→∃ oe,os[e.1]? = some oe∧isAl oe=true∧ziA os oe.guard (zeZ os (gF f0) val e.1 (zaR os oe))=some true∧Does X (pre os E0 (pv++xv) e.1) H oe.op (fun v H' => ∃ b obj,H' = [(b,obj)]::H∧CrOk cx B oe.op (zeZ os (gF f0) val e.1 (zaR os oe)) b obj v∧(H'.flatten.map (·.1)).Nodup):=by
     intro e he hne
     obtain ⟨he1,he2⟩:=zEs.1 he
     obtain ⟨q1,q2,q3,q4⟩:=hoth e he1
     have hpre2:othC cx os (gF f0) val nx h oth=true:=by
      unfold preC at hpre
      grind
     have hok:=zDa.1 hpre2 e he1
     split at hok
     ·rename_i hwt1
      split at hok
      ·rename_i lv' nx' h' hcr
       obtain ⟨obj,mk,m1,m2⟩:=zqR (X:=X) hc.ok (zil D.e0 D.er q1) q3 hcr
       refine ⟨e.2,q1,q3,hwt1,m1.nd.mono ?_⟩
       grind
      grind
     grind
    refine PhI.act (i::(oth.filter fun q => !zaj (pv++xv) q.1).map (·.1))
     (fun e v H' => (e=i→MR (geOf S++G) B lv nx1 h1 v H')∧(e≠i→∃ oe b obj,os[e]? = some oe∧isAl oe=true∧H' = [(b,obj)]::H∧CrOk cx B oe.op (zeZ os (gF f0) val e (zaR os oe)) b obj v∧(H'.flatten.map (·.1)).Nodup))
     (fun e v H' pv' => (∀ p ∈ pv',zaj (pv++((e,v)::xv)) p.1=false)∧zaj (pv++xv) e=false∧PhI X os k E0 ds (pv'++pv) ((e,v)::xv) H')
     (zk6 D.pure) kY ?_ ?_ ?_ ?_ ?_
    ·grind
    ·refine zDa.2 fun p hp => ?_
     obtain ⟨oj,j⟩:=p
     have hj:os[j]? = some oj:=by
      grind
     show (zaj (pv++xv) j || ((i::(oth.filter fun q => !zaj (pv++xv) q.1).map (·.1)).any fun e => Nat.beq j e) || (zcO oj).any fun d => !zaj (pv++xv) d)=true
     cases hkj:zaj (pv++xv) j with
     | true => rfl
     | false =>
      rw [zFS,zDw]
      rcases zoy os 0 (fun j => by grind) hw j oj (zDq _) hj with c | c | c | ⟨d,d1,d2⟩
      ·rw [(D.known j).2 (.inl c)] at hkj; grind
      ·simp_all
      ·left
       obtain ⟨q,q1,rfl⟩:=zld.1 c
       exact zDP.2 ⟨q.1,zDF _ (zDC.2 ⟨q,zEs.2 ⟨q1,by grind⟩,Z⟩),by simp⟩
      ·right
       refine zDP.2 ⟨d,d1,?_⟩
       cases hkd:zaj (pv++xv) d with
       | false => rfl
       | true =>
        rw [zsX,zEq] at d2
        rcases (D.known d).1 hkd with c | ⟨s,s1,rfl⟩
        ·grind
        grind
    ·intro e he
     by_cases hei:e=i
     ·subst hei
      refine ⟨o,ho,hdst _ _ ho,zig hE hwt,hdoes.mono fun v H' hm => ⟨fun _ => hm,fun hne => absurd Z hne⟩,?_⟩
      rintro v H' ⟨hm,_⟩
      obtain ⟨B1,b1,b2,b3,b4⟩:=hm rfl
      have D':=D.acted hc.ok hdst ho hi hSi b1 b2 b3 b4 hchk
      obtain ⟨pv',f1,f2⟩:=hn _ _ _ _ _ _ _ _ _ _ _ D' hSo r2
      grind
     ·have he:e ∈ (oth.filter fun q => !zaj (pv++xv) q.1).map (·.1):=by
       grind
      obtain ⟨q,q0,rfl⟩:=zDC.1 he
      obtain ⟨oe,e1,e2,e4,e3⟩:=early q q0 hei
      obtain ⟨q1,q2⟩:=zEs.1 q0
      rw [zDQ] at q2
      obtain ⟨t1,t2,t3,t4⟩:=hoth q q1
      rw [e1] at t1; cases t1
      refine ⟨q.2,e1,hdst _ _ e1,zig (zil D.e0 D.er e1) e4,e3.mono ?_,?_⟩
      ·grind
      ·rintro v H' ⟨_,hm⟩
       obtain ⟨oe',b,obj,x1,x2,rfl,x4,x5⟩:=hm hei
       rw [e1] at x1; cases x1
       have hSq:∀ s ∈ S,s.e≠q.1:=fun s hs hse => by
        rw [(D.known q.1).2 (.inr ⟨s,hs,hse⟩)] at q2; cases q2
       have hchk0:zjQ cx os (gF f0) h val (ziC os kn acts os 0)=true:=by
        unfold preC at hpre
        grind
       have D':=D.early hc.ok hdst e1 e2 t2 hSq t4 x4 e4 x5 hchk0
       have hlt:(oth.filter fun p => !zaj (pv++((q.1,v)::xv)) p.1).length < n:=by
        rw [← hlen]
        have key:∀ (l:List (Nat×Oper)),q ∈ l→(l.filter fun p => !zaj (pv++((q.1,v)::xv)) p.1).length < (l.filter fun p => !zaj (pv++xv) p.1).length:=by
         have le:∀ (l:List (Nat×Oper)),(l.filter fun p => !zaj (pv++((q.1,v)::xv)) p.1).length≤(l.filter fun p => !zaj (pv++xv) p.1).length:=by
          intro l
          induction l with
          | nil => simp
          | cons a l ihl =>
           simp only [zEL,zct q2]
           cases hka:zaj (pv++xv) a.1 <;> cases hqa:Nat.beq q.1 a.1 <;> simp [zct q2] at ihl ⊢ <;> omega
         intro l
         induction l with
         | nil => grind
         | cons a l ihl =>
          intro hm
          rcases zDp.1 hm with rfl | hm
          ·simp only [zEL,zct q2,q2]
           have:=le l
           simp [zct q2] at this ⊢
           omega
          ·have:=ihl hm
           simp only [zEL,zct q2] at this ⊢
           cases hka:zaj (pv++xv) a.1 <;> cases hqa:Nat.beq q.1 a.1 <;> simp at this ⊢ <;> omega
        grind
       obtain ⟨pv',f1,f2⟩:=ih _ hlt D' (fun s hs => by
        rcases zDp.1 hs with rfl | hs
        ·exact .inr (zld.2 ⟨q,q1,Z⟩)
        grind) Z
       exact ⟨pv',f1,q2,f2⟩
    ·grind [List.all_eq_true,zct,Bool.or_eq_false_iff,Nat.beq,zar]
    grind
   grind
  ·rename_i hwt
   rw [zb5,zaV] at hq
   have hqt:zhJ cx os (gF f0) val i o h = .ok (.tup []):=by
    grind [zhJ]
   obtain ⟨u,u1,D'⟩:=D.quiet hc.ok hdst ho hi hSi hqt
   obtain ⟨pv',f1,f2⟩:=hn _ _ _ _ _ _ _ _ _ _ _ D' hSo hq
   refine ⟨pv'++[(i,u)],fun p hp => ?_,by grind⟩
   grind [zf3,Bool.or_eq_false_iff]
  grind
theorem zmd (hc:CxF X.P X.w0 X.base cx) (hs:Sim X.P X.w0 X.base run) (hdst:∀ (i:Nat) (o:Oper),os[i]? = some o→zcq X.n o.dst=true) {c:Fr→Nat→LH→Res}
  (hfin:∀ {kn acts val nx h B H pv xv},DS X cx os f0 E0 G B0 kn acts val nx h B H pv xv []→c val nx h = .done v2 nx2 h2→At X k (finE os 0 (pv++xv) E0) ds H):∀ n,zCS X cx os f0 E0 G B0 k ds v2 nx2 h2 (znA cx g os run (gF f0) c n)
 | 0 => fun _ _ _ _ _ _ _ _ _ _ _ D hS hq => by cases hq
 | n + 1 => fun kn0 acts oth val nx h B H pv xv S D hS hq => by
  have hq:frN (fun kn => qsE cx os (gF f0) h Res.bad (zyL cx g os run (gF f0) c (znA cx g os run (gF f0) c n) kn acts oth nx h) (zhH cx os 0 kn0).1 val) (zhH cx os 0 kn0).2 = .done v2 nx2 h2:=hq
  rw [zaV] at hq
  obtain ⟨val',pv',q1,D',q3⟩:=ziT hc.ok hdst os 0 (fun j => by grind) D hq
  have add:(∃ pv2,(∀ p ∈ pv2,zaj (pv'++pv++xv) p.1=false)∧PhI X os k E0 ds (pv2++(pv'++pv)) xv H)→∃ pv2,(∀ p ∈ pv2,zaj (pv++xv) p.1=false)∧PhI X os k E0 ds (pv2++pv) xv H:=by
   grind [List.append_assoc,zaj,zdk,za1,Env.get]
  unfold zyL at q1
  split at q1
  ·cases q1
  ·rename_i hnx
   obtain ⟨rfl,hk⟩:=zsw hnx
   have hS0:S=[]:=by
    cases S with
    | nil => rfl
    | cons s S => have:=hS s kY; grind [memP]
   subst hS0
   refine ⟨pv',q3,PhI.fin (zk6 D'.pure) ?_ (hfin D' q1)⟩
   refine zDa.2 fun p hp => ?_
   obtain ⟨oj,j⟩:=p
   have hj:j < os.length:=by
    grind
   exact (D'.known j).2 (.inl (by rw [hk,zsW]; grind))
  ·rename_i i o oth' hnx
   obtain ⟨n1,n2,n3,n4,n5⟩:=zsx hnx
   split at q1
   ·rename_i hpre
    refine add (zvZ hc hs hdst (zmd hc hs hdst hfin n) n1 n2 n3 n4 hpre q1 _ D' (fun s hs' => ?_) Z)
    grind [zld]
   grind
end
noncomputable def finS:List Oper→Nat→Fr→Fr→Fr
  | [],_,_,f => f
  | o::r,i,val,f => finS r (i + 1) val (pS o.dst (gF val i) f)
theorem ztt {β:Type}(c:Fr→β):∀ (os:List Oper) (i:Nat) (val f:Fr),finF c os i val f=c (finS os i val f)
 | [],i,val,f => rfl
 | o::r,i,val,f => by rw [finF,zzc,ztt c r]; rfl
theorem zts {B:BB}{val:Fr}{V:Env}(hv:ER B (gF val) V):∀ (os:List Oper) (i:Nat) {f:Fr}{E:Env},ER B (gF f) E→ER B (gF (finS os i val f)) (finE os i V E)
 | [],i,f,E,h => h
 | o::r,i,f,E,h => by
  rw [finS,finE]
  refine zts hv r (i + 1) ?_
  cases hd:o.dst with
  | none => exact h
  | some d =>
   intro t ht
   have hpS:gF (pS (some d) (gF val i) f) t=if t=d then gF val i else gF f t:=zel _ _ _ _ _
   rw [hpS] at ht ⊢
   by_cases e:t=d
   ·subst e
    rw [zDi rfl] at ht ⊢
    obtain ⟨u,u1,u2⟩:=hv i ht
    simp_all [Env.get]
   ·rw [zDb e] at ht ⊢
    obtain ⟨u,u1,u2⟩:=h t ht
    refine ⟨u,?_,u2⟩
    split
    ·simp_all [Env.get,zbh,zFb]
    omega
theorem zky {n:Nat}{val:Fr}:∀ (os:List Oper) (i:Nat) {f:Fr},(∀ o ∈ os,∀ t,o.dst=some t→t < n)→(∀ t,gF f t≠.undef→t < n)→∀ t,gF (finS os i val f) t≠.undef→t < n
 | [],i,f,hd,hf => hf
 | o::r,i,f,hd,hf => by
  rw [finS]
  refine zky r (i + 1) (fun o' ho' => hd o' (by grind)) fun t ht => ?_
  cases hdo:o.dst with
  | none => rw [hdo] at ht; exact hf t ht
  | some d =>
   have hpS:gF (pS (some d) (gF val i) f) t=if t=d then gF val i else gF f t:=zel _ _ _ _ _
   rw [hdo,hpS] at ht
   by_cases e:t=d
   ·simp_all
   grind
section
variable {P:Program}{w0:World}{base:Nat}{cx:Cx}{ih:Run}
theorem zAh (hc:CxF P w0 base cx) (hs:Sim P w0 base ih):zm6 P w0 base cx ih:=by
 intro G B s f c a ds cs rcs nx h H w cs0 ops k todo id hb hok hT hDp hk hcs M hne v2 nx2 h2 hq
 have hok' : zid a.size ops.toList=true:=hok
 have hdst:∀ (i:Nat) (o:Oper),ops.toList[i]? = some o→zcq a.size o.dst=true:=by
  intro i o ho
  have:=zDa.1 hok' o (zEV ho)
  rw [zC9] at this
  cases hd:o.dst with
  | none => rfl
  | some d => rw [hd] at this; exact this.1
 have hrd:(ops.toList.all fun o => (zaR ops.toList o).all fun t => Nat.blt t a.size)=true:=by
  refine zDa.2 fun o ho => ?_
  have:=zDa.1 hok' o ho
  grind
 have hn:=zmd (X:=⟨P,c,a.size,rcs++cs0,Fin G P w0 base B v2 nx2 h2 (botP (s.g,s.rd.isSome) cs) cs0,w0,base⟩) (os:=ops.toList) (f0:=f) (E0:=zmB a) (G:=G) (B0:=B) (g:=s.g) (run:=ih) (k:=todo) (ds:=ds) (v2:=v2) (nx2:=nx2) (h2:=h2) (c:=fun val nx h => finF (fun f => ih (.run s f k) cs nx h) ops.toList 0 val f) hc hs hdst (by
  intro kn acts val nx' h' B' H' pv xv D hq' a' w' ha S'
  have hq' : finF (fun f => ih (.run s f k) cs nx' h') ops.toList 0 val f = .done v2 nx2 h2:=hq'
  rw [ztt] at hq'
  have her:=zts (f:=f) (E:=zmB a) D.er ops.toList 0 D.e0
  have hb' : FB B' s (finS ops.toList 0 val f) c a' ds:=by
   refine ⟨hb.fn,hb.kind,hb.rd.mono D.bp,fun t => ?_,fun t ht => ?_,ADL.mono D.bp hb.ds⟩
   ·by_cases e:gF (finS ops.toList 0 val f) t = .undef
    ·have e:Tr.get .undef (finS ops.toList 0 val f) t = .undef:=e
     grind [VR]
    ·obtain ⟨u,u1,u2⟩:=her t e
     rw [ha.get t u u1]; exact u2
   ·rw [ha.size]
    exact zky ops.toList 0 (fun o ho => ziY hok' ho) hb.bound t ht
  have hsz:a'.size=a.size:=ha.size
  have hgo:=Goes.run hs hb' (by rw [hsz]; exact hk.mono D.bp) (hcs.mono D.bp) ⟨D.len,D.hr,S'⟩ hne v2 nx2 h2 hq'
  exact hgo.into fun m hm => hm.mono D.bp) 60
 obtain ⟨pv',_,hPh⟩:=hn 0 [] [] .e nx h B H [] [] [] ⟨zDj _,M.len,M.hr,hb.er,fun t ht => absurd (zAf t) ht,fun i hi => by grind [zaj,Env.get],fun i => by simp [zaj,Env.get,zb6],fun p hp => by grind,fun e he => by grind,fun p hp => by grind,fun s hs => by grind,by simp,fun s hs => by grind,by simp⟩ (fun s hs => by grind) hq
 exact zxP hc.mo hT hDp hrd hPh a w ⟨Z,fun t v hv => zku a hv⟩ M.sep
theorem sim (hc:CxF P w0 base cx) (n:Nat):Sim P w0 base (runA cx n):=znr hc (fun _ hs => zAh hc hs) n
theorem zpG {G:List (Nat×Obj)}(hc:CxF P w0 base cx) {args:List LV}(hu:VRL B args us) (hn:B.length=nx) (hr:HR G B h H) {v:LV}(hq:zmV cx n g args nx h = .done v nx' h') :
  SCalls P g us w0 base H fun u H' => ∃ B',B <+: B'∧B'.length=nx'∧VR B' v u∧HR G B' h' H':=by
 intro w S cs
 have hgo:=zdG (g:=g) (dfd:=false) (cs:=[]) (rcs:=[]) (cs0:=cs) hc (sim hc n) hu rfl ⟨hn,hr,S⟩ (fun e => by cases e) (m:=lone (Frame.enter P g us.toArray .normal) cs w) (fun _ => Steps.refl _ _)
 obtain ⟨m',st,u,B',H',w2,b1,b2,b3,b4,b5,fr,rfl,hf,hleave⟩:=hgo _ _ _ hq
 exact ⟨.returned u,w2,fr,⟨u,H',Z,⟨B',b1,b2,b3,b4⟩,b5⟩,st,hf,hleave⟩
theorem zqV (hc:CxF P w0 base cx) (hq:∃ nx' h',zmV cx n g [] 0 .e = .done (.bool b) nx' h'):SCalls P g [] w0 base [] fun u _ => u = .bool b:=by
 obtain ⟨nx',h',hq⟩:=hq
 refine (zpG (G:=[]) hc (B:=[]) (H:=[]) (us:=[]) VRL.nil_ Z ⟨fun i => i,fun i hi => ?_,fun i i' hi hi' e => e,fun g hg => by grind⟩ hq).mono ?_
 ·have:atB .e i = .gone:=zCa _ _
  rw [this] at hi; cases hi
 grind [VR]
end
def PrOk (P:Program) (w0:World) (base:Nat) (g:FuncId) (p:List LV→Nat→LH→Rs):Prop :=
 ∀ (G:List (Nat×Obj)) args nx h lv nx' h' B H us,p args nx h = .ok lv nx' h'→VRL B args us→B.length=nx→HR G B h H→PrR P w0 base g us H (MR G B lv nx' h')
def zAG (args:List LV) (nx:Nat) (h:LH):Rs:=match args with
 | [.flt .f64 n] => .ok (.int .u64 (.ofNat n)) nx h
 | [.nan] => .ok .nanb nx h
 | _ => .bad 440
def zzW (args:List LV) (nx:Nat) (h:LH):Rs:=match args with
 | [.int .u64 (.ofNat n)] => .ok (.flt .f64 n) nx h
 | [.nanb] => .ok .nan nx h
 | _ => .bad 441
section
variable {P:Program}{w0:World}{base:Nat}{g:FuncId}
theorem zo0 {a:LV}(h:VRL B [a] us):∃ u,us=[u]∧VR B a u:=by
 simp only [VRL] at h
 grind
theorem zAE (hr:∀ b w,(callFunc g #[.float .f64 b]).run P w = .ok (.value (.int .u64 (b:Nat))) w):PrOk P w0 base g zAG:=by
 intro G args nx h lv nx' h' B H us hq hu hn hH
 refine .inl fun w S => ?_
 unfold zAG at hq
 split at hq
 ·cases hq
  obtain ⟨u,rfl,h1⟩:=zo0 hu
  simp only [VR] at h1; subst h1
  exact ⟨_,w,H,hr _ w,S,B,zDj _,hn,by grind [VR],hH⟩
 ·cases hq
  obtain ⟨u,rfl,h1⟩:=zo0 hu
  simp only [VR] at h1
  obtain ⟨n,rfl,h2⟩:=h1
  exact ⟨_,w,H,hr _ w,S,B,zDj _,hn,by simp only [VR]; grind,hH⟩
 grind
theorem zzV (hr:∀ (b:Int) w,(callFunc g #[.int .u64 b]).run P w = .ok (.value (.float .f64 b.toNat)) w):PrOk P w0 base g zzW:=by
 intro G args nx h lv nx' h' B H us hq hu hn hH
 refine .inl fun w S => ?_
 unfold zzW at hq
 split at hq
 ·cases hq
  obtain ⟨u,rfl,h1⟩:=zo0 hu
  simp only [VR] at h1; subst h1
  exact ⟨_,w,H,hr _ w,S,B,zDj _,hn,by grind [VR],hH⟩
 ·cases hq
  obtain ⟨u,rfl,h1⟩:=zo0 hu
  simp only [VR] at h1
  obtain ⟨n,rfl,h2⟩:=h1
  exact ⟨_,w,H,hr _ w,S,B,zDj _,hn,by simp only [VR]; grind,hH⟩
 grind
end
noncomputable section
def ztm (P:Program):Tr (Option Func):=mkTr 12 (P.funcs.toList.map some)
def zre (P:Program) (n:Nat):Tr TI:=mkTr 12 ((List.range n).map (mkTI P))
def fnAt (t:Tr (Option Func)) (g:FuncId):Option Func:=match Tr.get none t g with
 | some f => match f.body with
  | some _ => some f
  | none => none
 | none => none
def zo1 (f:Func):Bool:=match f.body with
 | none => true
 | some _ => okFn f
def cxOf (P:Program) (n:Nat) (pr:FuncId→Option (List LV→Nat→LH→Rs)) (gl:Nat→Nat→Option LV):Cx :=
 { ty:=fun t => Tr.get default (zre P n) t,fn:=fnAt (ztm P),pr:=pr,gl:=gl,mt:=mtOf P }
end
theorem fn_ok (hn:P.funcs.size < 4096) (hall:P.funcs.toList.all zo1=true) (g:FuncId) (f:Func) (h:fnAt (ztm P) g=some f):P.funcs[g]? = some f∧okFn f=true:=by
 grind [fnAt,ztm,zsE,List.all_eq_true,List.mem_of_getElem?,zo1]
theorem ty_ok (hn:n < 4096) (hs:P.types.size≤n):(fun t => Tr.get default (zre P n) t)=mkTI P:=by
 grind [zre,zsE,default,List.getElem?_range,List.getElem?_eq_none,zeG,known,Nat.blt,zui,decide_eq_false]
theorem cx_ok {pr:FuncId→Option (List LV→Nat→LH→Rs)}{gl:Nat→Nat→Option LV}(hn:n < 4096) (hs:P.types.size≤n) (hf:P.funcs.size < 4096) (hall:P.funcs.toList.all zo1=true) (hmo:P.follows .mixedOrders=true)
  (hpr:∀ g p,pr g=some p→PrOk P w0 base g p) (hgl:∀ g o v,gl g o=some v→∃ u,VR [] v u∧∀ w,Below base w0 w→w.cell? ⟨g,o,none⟩=some u):CxF P w0 base (cxOf P n pr gl) :=
 ⟨⟨ty_ok hn hs,hgl⟩,fun g f h => fn_ok hf hall g f h,rfl,fun G g p h => hpr g p h G,hmo⟩
def isT (r:Res):Bool:=match r with
 | .done (.bool b) _ _ => b
 | _ => false
theorem zqU {cx:Cx}(hc:CxF P w0 base cx) (hq:isT (zmV cx n g [] 0 .e)=true):SCalls P g [] w0 base [] fun u _ => u = .bool true:=by
 unfold isT at hq
 split at hq
 ·rename_i b nx h e
  subst hq
  exact zqV hc ⟨_,_,e⟩
 grind
noncomputable section
def eqV:Nat→LV→LV→Bool
 | 0,_,_ => false
 | f + 1,a,b => match a,b with
  | .undef,.undef => true
  | .bool a,.bool b => a == b
  | .flt .f64 a,.flt .f64 b => Nat.beq a b
  | .nan,.nan => true
  | .nanb,.nanb => true
  | .int k a,.int k' b => Nat.beq (kN k) (kN k') && eqI a b
  | .str l a,.str m b => eqS l a m b
  | .nilp,.nilp => true
  | .ptr i o,.ptr j p => Nat.beq i j && Nat.beq o p
  | .gptr i o,.gptr j p => Nat.beq i j && Nat.beq o p
  | .nils,.nils => true
  | .sl i o n c,.sl i' o' n' c' => Nat.beq i i' && (Nat.beq o o' && (Nat.beq n n' && Nat.beq c c'))
  | .slo i o n a,.slo i' o' n' a' => Nat.beq i i' && (Nat.beq o o' && (Nat.beq n n' && Nat.beq a a'))
  | .map0,.map0 => true
  | .map i,.map j => Nat.beq i j
  | .fn g u c,.fn g' u' c' => Nat.beq g g' && (zfh (eqV f) u u' && zfh (eqV f) c c')
  | .nilf,.nilf => true
  | .ifc t a,.ifc u b => Nat.beq t u && eqV f a b
  | .nili,.nili => true
  | .agg l,.agg m => zfh (eqV f) l m
  | .tup l,.tup m => zfh (eqV f) l m
  | _,_ => false
theorem zgG {f:LV→LV→Bool}(hf:∀ a b,f a b=true→a=b):∀ (l m:List LV),zfh f l m=true→l=m
 | [],[],_ => rfl
 | [],b::m,h => by simp [zfh] at h
 | a::l,[],h => by simp [zfh] at h
 | a::l,b::m,h => by
  simp only [zfh] at h
  split at h
  ·rename_i hab; rw [hf a b hab,zgG hf l m h]
  ·cases h
theorem zmN:∀ (n:Nat) (a b:LV),eqV n a b=true→a=b
 | 0,a,b,h => by grind [eqV]
 | n + 1,a,b,h => by
  have ih:=zmN n
  unfold eqV at h
  split at h
  ·rfl
  ·grind
  ·simp_all
  ·rfl
  ·rfl
  ·rw [zC9,zfG] at h
   rw [zmr h.1,zDf h.2]
  ·unfold eqS at h
   simp_all
  ·rfl
  ·simp_all
  ·simp_all
  ·rfl
  ·simp_all
  ·simp_all
  ·rfl
  ·simp_all
  ·rw [zC9,zC9] at h
   grind [zar,zgG]
  ·rfl
  ·rw [zC9] at h
   grind [zar]
  ·rfl
  ·grind [zgG]
  ·grind [zgG]
  grind
def eqVs (l m:List LV):Bool:=zfh (eqV 20) l m
theorem ztC {l m:List LV}(h:eqVs l m=true):l=m:=zgG (zmN 20) l m h
def zpz (t t' : Tr (List LV)):Nat→Nat→Bool
 | 0,_ => true
 | r + 1,i => match eqVs (Tr.get [] t i) (Tr.get [] t' i) with
  | true => zpz t t' r (i + 1)
  | false => false
theorem zmP {t t' : Tr (List LV)}:∀ (r i:Nat),zpz t t' r i=true→∀ j,i≤j→j < i + r→Tr.get [] t j=Tr.get [] t' j
 | 0,i,_,j,h1,h2 => by omega
 | r + 1,i,h,j,h1,h2 => by
  rw [zpz] at h
  split at h
  ·rename_i he
   by_cases e:j=i
   ·subst e; exact ztC he
   ·exact zmP r (i + 1) h j kQ kQ
  ·cases h
def eqNs:List Nat→List Nat→Bool
 | [],[] => true
 | a::l,b::m => match Nat.beq a b with
  | true => eqNs l m
  | false => false
 | _,_ => false
theorem ztG:∀ {l m:List Nat},eqNs l m=true→l=m
 | [],[],_ => rfl
 | [],b::m,h => by simp [eqNs] at h
 | a::l,[],h => by simp [eqNs] at h
 | a::l,b::m,h => by
  simp only [eqNs] at h
  split at h
  ·rename_i hab; rw [zar.1 hab,ztG h]
  ·cases h
def eqPs:List (LV×LV)→List (LV×LV)→Bool
 | [],[] => true
 | (a,a')::l,(b,b')::m => match eqV 20 a b && eqV 20 a' b' with
  | true => eqPs l m
  | false => false
 | _,_ => false
theorem ztE:∀ {l m:List (LV×LV)},eqPs l m=true→l=m
 | [],[],_ => rfl
 | [],b::m,h => by simp [eqPs] at h
 | a::l,[],h => by simp [eqPs] at h
 | (a,a')::l,(b,b')::m,h => by
  simp only [eqPs] at h
  split at h
  ·rename_i hab
   rw [zC9] at hab
   rw [zmN 20 _ _ hab.1,zmN 20 _ _ hab.2,ztE h]
  ·cases h
def eqO (a b:LO):Bool:=match a,b with
 | .rows sz len t,.rows sz' len' t' => Nat.beq sz sz' && (Nat.beq len len' && zpz t t' len 0)
 | .bytes len n,.bytes len' n' => Nat.beq len len' && Nat.beq n n'
 | .map c bs es,.map c' bs' es' => Nat.beq c c' && (eqNs bs bs' && eqPs es es')
 | _,_ => false
theorem ztF {a b:LO}(h:eqO a b=true):a=b∨∃ sz len t t',a = .rows sz len t∧b = .rows sz len t'∧∀ r,r < len→Tr.get [] t r=Tr.get [] t' r:=by
 unfold eqO at h
 split at h
 ·rw [zC9,zC9] at h
  have e1:=zar.1 h.1
  have e2:=zar.1 h.2.1
  subst e1 e2
  exact .inr ⟨_,_,_,_,rfl,rfl,fun r hr => zmP _ _ h.2.2 r (zDq _) kQ⟩
 ·simp_all
 ·rw [zC9,zC9] at h
  rw [zar.1 h.1,ztG h.2.1,ztE h.2.2]; grind
 grind
theorem ze4 {a b:LO}(h:eqO a b=true):zbA a=true∧zbA b=true:=by
 unfold eqO at h
 split at h
 ·exact ⟨rfl,rfl⟩
 ·exact ⟨rfl,rfl⟩
 ·exact ⟨rfl,rfl⟩
 grind
theorem zpA {a b:LO}(h:eqO a b=true) :OR B k obj a↔OR B k obj b:=by
 rcases ztF h with rfl | ⟨sz,len,t,t',rfl,rfl,ht⟩
 ·grind
 ·constructor
  ·rintro ⟨cs,e,h1,h2,h3,h4,h5,h6,h7⟩
   exact ⟨cs,e,h1,h2,h3,h4,h5,h6,fun r hr => by grind⟩
  ·rintro ⟨cs,e,h1,h2,h3,h4,h5,h6,h7⟩
   exact ⟨cs,e,h1,h2,h3,h4,h5,h6,fun r hr => by grind⟩
def putK {β:Type}(h:LH):List (Nat×LO)→(LH→β)→β
 | [],c => c h
 | p::l,c => putK h l fun h => Tr.put .gone p.2 h p.1 c
noncomputable def putS (h:LH):List (Nat×LO)→LH
 | [] => h
 | p::l => Tr.set .gone p.2 (putS h l) p.1
theorem zny {β:Type}(h:LH):∀ (l:List (Nat×LO)) (c:LH→β),putK h l c=c (putS h l)
 | [],c => rfl
 | p::l,c => by rw [putK,zny h l,zb5]; rfl
def zgX (i:Nat):List (Nat×LO)→Option LO
 | [] => none
 | p::l => match Nat.beq p.1 i with
  | true => some p.2
  | false => zgX i l
theorem znx {h:LH}{i:Nat}:∀ {l:List (Nat×LO)},atB (putS h l) i=match zgX i l with | some lo => lo | none => atB h i
 | [] => rfl
 | p::l => by
  rw [putS,zch,zgX]
  by_cases e:i=p.1
  ·simp_all
  simp_all [zDb,zbh,zFb,znx]
theorem zgW {i:Nat}{lo:LO}:∀ {l:List (Nat×LO)},zgX i l=some lo→(i,lo) ∈ l
 | p::l,h => by
  rw [zgX] at h
  split at h
  ·rename_i hb
   cases h
   rw [← zar.1 hb]; simp
  ·exact zDF _ (zgW h)
structure Memo where
  args:List LV
  nx:Nat
  need:List (Nat×LO)
  v:LV
  nx' : Nat
  out:List (Nat×LO)
def zB5 (lo:LO):Bool:=match lo with
 | .gone => true
 | _ => false
def zBQ (h:LH) (l:List (Nat×LO)):Bool:=l.all fun p => eqO (atB h p.1) p.2
def znJ (m:Memo) (args:List LV) (nx:Nat) (h:LH):Rs:=match eqVs args m.args && (Nat.beq nx m.nx && zBQ h m.need) with
 | true => putK h m.out fun h => .ok m.v m.nx' h
 | false => .bad 450
def zBK (h:LH) (m:Memo):Bool:=(m.out.all fun p => zB5 p.2 || eqO (atB h p.1) p.2) && m.need.all fun p => (zgX p.1 m.out).isSome || eqO (atB h p.1) p.2
def chkM (r:Res) (m:Memo):Bool:=match r with
 | .done v nx h => eqV 20 v m.v && (Nat.beq nx m.nx' && zBK h m)
 | .bad _ => false
def zi2:List Memo→List LV→Nat→LH→Rs
 | [],_,_,_ => .bad 451
 | m::l,args,nx,h => match Nat.beq nx m.nx with
  | true => znJ m args nx h
  | false => zi2 l args nx h
section
variable {P:Program}{w0:World}{base:Nat}{cx:Cx}{g:FuncId}
noncomputable def zvJ (B:BB) (h:LH) (H:List Seg) (p:Nat→Nat) (N:Nat→Bool):List (Nat×Obj):=((List.range B.length).filter fun i => zbA (atB h i) && !N i).flatMap fun i => H.getD (p i) []
theorem zl6 {p:Nat→Nat}{N:Nat→Bool}{x:Nat×Obj}:x ∈ zvJ B h H p N↔∃ i,i < B.length∧zbA (atB h i)=true∧N i=false∧x ∈ H.getD (p i) []:=by
 unfold zvJ
 grind
theorem znI (hc:CxF P w0 base cx) (m:Memo) (hbody:Body P g) (hq:chkM (zmV cx n g m.args m.nx (putK .e m.need fun h => h)) m=true):PrOk P w0 base g (znJ m):=by
 intro G args nx h lv nx' h' B H us hm hu hn hr
 unfold znJ at hm
 split at hm
 ·rename_i hcond
  rw [zC9,zC9] at hcond
  obtain ⟨g1,g2,g3⟩:=hcond
  have e1:=ztC g1
  have e2:=zar.1 g2
  subst e1 e2
  rw [zny] at hm
  cases hm
  rw [zny] at hq
  unfold chkM at hq
  split at hq
  ·rename_i v1 nx1 h1 hrun
   rw [zC9,zC9] at hq
   obtain ⟨q1,q2,q3⟩:=hq
   have e3:=zmN 20 _ _ q1
   have e4:=zar.1 q2
   subst e3 e4
   unfold zBK at q3
   rw [zC9] at q3
   obtain ⟨q3,q4⟩:=q3
   refine .inr ⟨hbody,fun w S cs => ?_⟩
   have hr0:=hr
   obtain ⟨p,a1,a2,a3⟩:=hr
   have need_at:∀ i lo,zgX i m.need=some lo→eqO (atB h i) lo=true:=fun i lo hf => zDa.1 g3 _ (zgW hf)
   have mk_at:∀ i,atB (putS .e m.need) i=match zgX i m.need with | some lo => lo | none => .gone:=fun i => by
    rw [znx]
    split
    ·rfl
    ·exact zCa _ _
   have live_mk:∀ i,zbA (atB (putS .e m.need) i)=true→∃ lo,zgX i m.need=some lo:=fun i hi => by
    rw [mk_at] at hi
    cases hf:zgX i m.need with
    | some lo => grind
    | none => rw [hf] at hi; cases hi
   have hr1:HR (zvJ B h H p (fun i => (zgX i m.need).isSome)++G) B (putS .e m.need) H:=by
    refine ⟨p,fun i hi => ?_,fun i i' hi hi' he => ?_,fun x hx => ?_⟩
    ·grind [ze4,zpA]
    ·grind [ze4]
    grind [zl6,ze4]
   obtain ⟨e,w',fr,⟨u,H',rfl,⟨B',bp,bl,bv,br⟩,S'⟩,r2,r3,r4⟩:=zpG hc hu hn hr1 hrun w S cs
   refine ⟨.returned u,w',fr,⟨u,H',Z,⟨B',bp,bl,bv,?_⟩,S'⟩,r2,r3,r4⟩
   obtain ⟨p1,b1,b2,b3⟩:=br
   have pos:∀ i,∃ j,zbA (atB (putS h m.out) i)=true→(∃ k obj,B'[i]? = some k∧H'[j]? = some [(k.b,obj)]∧OR B' k obj (atB (putS h m.out) i)) ∧
     ((j=p1 i∧zbA (atB h1 i)=true)∨((∀ i',zbA (atB h1 i')=true→p1 i'≠j)∧zbA (atB h i)=true∧∃ k obj,B[i]? = some k∧H[p i]? = some [(k.b,obj)]∧H'[j]? = some [(k.b,obj)])):=by
    intro i
    by_cases hlive:zbA (atB (putS h m.out) i)=true
    ·rw [znx] at hlive ⊢
     cases hf:zgX i m.out with
     | some lo =>
      rw [hf] at hlive
      have:=zDa.1 q3 _ (zgW hf)
      rw [zDw] at this
      have he:eqO (atB h1 i) lo=true:=by
       rcases this with hg | hg
       ·exfalso
        have hl:zbA lo=true:=hlive
        cases lo <;> first | (cases hl; done) | (cases hg; done)
       omega
      obtain ⟨k,obj,c1,c2,c3⟩:=b1 i (ze4 he).1
      exact ⟨p1 i,fun _ => ⟨⟨k,obj,c1,c2,(zpA he).1 c3⟩,.inl ⟨Z,(ze4 he).1⟩⟩⟩
     | none =>
      rw [hf] at hlive
      have hlive:zbA (atB h i)=true:=hlive
      cases hf2:zgX i m.need with
      | some lo =>
       have h0:=need_at i lo hf2
       have:=zDa.1 q4 _ (zgW hf2)
       rw [zDw] at this
       have he:eqO (atB h1 i) lo=true:=by
        grind
       obtain ⟨k,obj,c1,c2,c3⟩:=b1 i (ze4 he).1
       exact ⟨p1 i,fun _ => ⟨⟨k,obj,c1,c2,(zpA h0).2 ((zpA he).1 c3)⟩,.inl ⟨Z,(ze4 he).1⟩⟩⟩
      | none =>
       obtain ⟨k,obj,c1,c2,c3⟩:=a1 i hlive
       have hin:(k.b,obj) ∈ zvJ B h H p (fun i => (zgX i m.need).isSome)++G:=by
        grind [List.mem_append_left,zl6,List.getElem?_eq_some_iff]
       obtain ⟨j,j1,j2⟩:=b3 _ hin
       exact ⟨j,fun _ => ⟨⟨k,obj,zb8 bp c1,j1,c3.mono bp⟩,.inr ⟨j2,hlive,k,obj,c1,c2,j1⟩⟩⟩
    ·exact ⟨0,fun h => absurd h hlive⟩
   obtain ⟨q,hqq⟩:=zGf pos
   refine ⟨q,fun i hi => (hqq i hi).1,fun i i' hi hi' he => ?_,fun x hx => ?_⟩
   ·rcases (hqq i hi).2 with ⟨t1,t2⟩ | ⟨t1,t2,k,obj,t3,t4,t5⟩ <;> rcases (hqq i' hi').2 with ⟨s1,s2⟩ | ⟨s1,s2,k',obj',s3,s4,s5⟩
    ·grind
    ·grind
    ·grind
    ·rw [he,s5] at t5
     have e0:(k'.b,obj')=(k.b,obj):=by grind
     exact hr0.apart S i i' k k' t2 s2 t3 s3 (zDh Prod.fst e0).symm
   ·obtain ⟨j,j1,j2⟩:=b3 x (List.mem_append_right _ hx)
    refine ⟨j,j1,fun i hi hqe => ?_⟩
    rcases (hqq i hi).2 with ⟨t1,t2⟩ | ⟨t1,t2,k,obj,t3,t4,t5⟩
    ·grind
    ·rw [hqe,j1] at t5
     have e0:x=(k.b,obj):=by grind
     obtain ⟨j0,d1,d2⟩:=a3 x hx
     rw [e0] at d1
     have:=(zeV S.nodup (i:=p i) (j:=0) (s:=[(k.b,obj)]) (b:=k.b) (o:=obj) t4 rfl (i':=j0) (s':=[(k.b,obj)]) (o':=obj) d1 kY).1
     grind
  grind
 grind
theorem zlc:∀ {l:List Memo},(∀ m ∈ l,PrOk P w0 base g (znJ m))→PrOk P w0 base g (zi2 l)
 | [],_ => fun G args nx h lv nx' h' B H us hm => by cases hm
 | m::l,hl => fun G args nx h lv nx' h' B H us hm hu hn hr => by
  rw [zi2] at hm
  split at hm
  ·exact hl m kY G args nx h lv nx' h' B H us hm hu hn hr
  ·exact zlc (fun m' h' => hl m' (by grind)) G args nx h lv nx' h' B H us hm hu hn hr
end
end
end Go.Proofs.YtjmnjkoekabioaaGreatDoor
